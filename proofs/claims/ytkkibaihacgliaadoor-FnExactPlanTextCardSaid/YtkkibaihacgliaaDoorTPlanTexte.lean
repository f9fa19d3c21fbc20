/-
  No statement is proved here: what the functions of the law answer, told as plain functions, and that the law's answer is always true.
  No condition.
-/
import Derived.Test.YtkkibaihacgliaaDoorTPlanTextd
set_option maxRecDepth 3000000
set_option maxHeartbeats 100000000
namespace Go.Proofs.GR.T
open Go Go.Proofs Go.Proofs.GR
theorem less_le (x y : ByteArray) : (Op.bytesLess y.toList x.toList || y.toList == x.toList) = !Sp.lessS x y := by
  show (Sp.lessS y x || y.toList == x.toList) = !Sp.lessS x y
  cases h : Sp.lessS x y with
  | true =>
    rw [lessS_asymm h, Bool.false_or]
    cases he : y.toList == x.toList with
    | false => rfl
    | true => rw [lessS_congr' (c := x) (eq_of_beq he), lessS_irrefl] at h; cases h
  | false =>
    cases h2 : Sp.lessS y x with
    | true => rfl
    | false => rw [lessS_tri h2 h, beq_self_eq_true]; rfl
def Sp.fineTb (x : VTb) : Bool := Sp.fineT x.1 x.2.1 x.2.2.2
def Sp.fineTs (xs : List VTb) : Bool := Sp.allW Sp.fineTb xs
noncomputable def e1090 : Ent := { f := n1090, ins := [Sh.one (cL tTb)], outs := [Sh.one cB], upd := [], pre := fun a => Sp.fineTs a, spec := fun a => Sp.catOK a, wrt := fun _ => () }
theorem e1090_core (xs : List VTb) (ha : Sp.fineTs xs = true) (hl : xs.length ≤ maxLen) : ∃ n, abody Γ (orc [e1115]) n n1090 [XV.mk false [X.c (X0.dat (Ty.slice tTb) xs)]] = some (rBo (Sp.catOK xs)) := by
  have hl : xs.length ≤ 9223372036854775807 := hl
  have ha := allW_mem.1 ha
  refine ⟨xs.length + 1, (f1090_raw _ xs).trans ?_⟩
  have L0 := allP_end (p := Sp.catP) (z := some (rBo (decide ((xs.length : Int) ≤ (6 : Int))))) (F := some (rBo false)) xs (fun m k => f1090_L0 (xs.length + 1) m xs xs xs.length k) (fun m k hk => by
    show f1090_L0 _ _ _ _ _ _ = _
    rw [f1090_L0_step, nat_ge hk, cond_false]) (fun m k h _ => by
    show f1090_L0 _ _ _ _ _ _ = _
    have hk : (xs.take k).length = k := by rw [List.length_take]; omega
    have hp : Sp.fineT xs[k].1 xs[k].2.1 xs[k].2.2.2 = true := ha _ (List.getElem_mem h)
    rw [f1090_L0_step, nat_lt h, cond_true, guard0, chkT, getD_nat xs k _ h, hp, chkT, next64 h hl]
    unfold Sp.catP
    rw [hk]
    show (bif !Sp.okT xs[k] then _ else _) = _
    cases Sp.okT xs[k] with
    | false => rfl
    | true =>
      rw [Bool.not_true, cond_false, cond_false]
      by_cases h0 : 0 < k
      · rw [decide_eq_true (show (k : Int) > 0 by omega), decide_eq_true h0, cond_true, cond_true, prevT_take h h0]
        have e : IntKind.i64.wrap ((k : Int) - 1) = ((k - 1 : Nat) : Int) := (wrap64 (by omega) (by omega)).trans (by omega)
        rw [e, guard2 (show k - 1 < xs.length by omega), chkT, Int.toNat_natCast, less_le]
      · rw [decide_eq_false (show ¬ (k : Int) > 0 by omega), decide_eq_false h0]
        rfl) _ (Nat.lt_succ_self _)
  refine L0.trans ?_
  unfold Sp.catOK
  by_cases h6 : (xs.length : Int) ≤ (6 : Int)
  · rw [decide_eq_true h6, decide_eq_false (show ¬ (xs.length : Int) > 4096 by omega), decide_eq_false (show ¬ (xs.length : Int) > 6 by omega), cond_false, cond_false]
    cases Sp.allP Sp.catP [] xs <;> rfl
  · rw [decide_eq_false h6, decide_eq_true (show (xs.length : Int) > 6 by omega)]
    cases Sp.allP Sp.catP [] xs <;> cases decide ((xs.length : Int) > (4096 : Int)) <;> rfl
theorem e1090_ok : Valid PP Γ e1090 := valid_len ok (vcons e1115_ok vnil) fun a ha hl => e1090_core a ha (hl _ (List.mem_cons_self) _ (List.mem_cons_self)).1
def Sp.f1091_pre (x0 : ByteArray) (x1 : Int) (x2 : ByteArray) (x3 : ByteArray) (x4 : Int) (x5 : List (ByteArray × List (ByteArray × Int × Bool) × Int × List (ByteArray × List Int))) : Bool := (Sp.f1092_pre x5 x0 && (bif (Sp.f1092 x5 x0).1.2 then decide ((0 : Int) ≤ (Sp.f1092 x5 x0).1.1) && decide ((Sp.f1092 x5 x0).1.1 < (↑x5.length : Int)) else true))
def Sp.f1091 (x0 : ByteArray) (x1 : Int) (x2 : ByteArray) (x3 : ByteArray) (x4 : Int) (x5 : List (ByteArray × List (ByteArray × Int × Bool) × Int × List (ByteArray × List Int))) := (bif (Sp.f1092 x5 x0).1.2 then (bif (Sp.f70 x1 (-1 : Int) (IntKind.i64.wrap ((↑(x5.getD (Sp.f1092 x5 x0).1.1.toNat (ByteArray.mk #[], [], (0 : Int), [])).2.2.2.length : Int) - (1 : Int)))).1 then (bif decide ((↑x2.size : Int) ≤ (200 : Int)) then (bif decide ((↑x3.size : Int) ≤ (200 : Int)) then ((Sp.f70 x4 (0 : Int) (1000 : Int)).1, ()) else (false, ())) else (false, ())) else (false, ())) else (false, ()))
noncomputable def e1091 : Ent := { f := 46, ins := [Sh.agg [C0.dat Ty.str, C0.dat (Ty.int IntKind.i64), C0.dat Ty.str, C0.dat Ty.str, C0.dat (Ty.int IntKind.i64)], Sh.one (C0.dat (Ty.str.pair ((Ty.str.pair ((Ty.int IntKind.i64).pair Ty.bool)).slice.pair ((Ty.int IntKind.i64).pair (Ty.str.pair (Ty.int IntKind.i64).slice).slice))).slice)], outs := [Sh.one (C0.dat Ty.bool)], upd := [], pre := fun a => Sp.f1091_pre a.1.1 a.1.2.1 a.1.2.2.1 a.1.2.2.2.1 a.1.2.2.2.2 a.2, spec := fun a => (Sp.f1091 a.1.1 a.1.2.1 a.1.2.2.1 a.1.2.2.2.1 a.1.2.2.2.2 a.2).1, wrt := fun a => (Sp.f1091 a.1.1 a.1.2.1 a.1.2.2.1 a.1.2.2.2.1 a.1.2.2.2.2 a.2).2 }
def f1091_g (v : denS [Sh.one (C0.dat Ty.bool)] × denS []) : Res := ⟨mkS [Sh.one (C0.dat Ty.bool)] v.1, mkU [] v.2⟩
theorem f1091_raw (x0 : ByteArray) (x1 : Int) (x2 : ByteArray) (x3 : ByteArray) (x4 : Int) (x5 : List (ByteArray × List (ByteArray × Int × Bool) × Int × List (ByteArray × List Int))) : abody Γ (orc [e1092, e70]) 0 46 [XV.mk true [X.c (X0.dat Ty.str x0), X.c (X0.dat (Ty.int IntKind.i64) x1), X.c (X0.dat Ty.str x2), X.c (X0.dat Ty.str x3), X.c (X0.dat (Ty.int IntKind.i64) x4)], XV.mk false [X.c (X0.dat (Ty.str.pair ((Ty.str.pair ((Ty.int IntKind.i64).pair Ty.bool)).slice.pair ((Ty.int IntKind.i64).pair (Ty.str.pair (Ty.int IntKind.i64).slice).slice))).slice x5)]] = chk (Sp.f1092_pre x5 x0) (bif (Sp.f1092 x5 x0).1.2 then chk (decide ((0 : Int) ≤ (Sp.f1092 x5 x0).1.1) && decide ((Sp.f1092 x5 x0).1.1 < (↑x5.length : Int))) (bif (Sp.f70 x1 (-1 : Int) (IntKind.i64.wrap ((↑(x5.getD (Sp.f1092 x5 x0).1.1.toNat (ByteArray.mk #[], [], (0 : Int), [])).2.2.2.length : Int) - (1 : Int)))).1 then bif decide ((↑x2.size : Int) ≤ (200 : Int)) then bif decide ((↑x3.size : Int) ≤ (200 : Int)) then some (Res.mk [XV.mk false [X.c (X0.dat Ty.bool (Sp.f70 x4 (0 : Int) (1000 : Int)).1)]] []) else some (Res.mk [XV.mk false [X.c (X0.dat Ty.bool false)]] []) else some (Res.mk [XV.mk false [X.c (X0.dat Ty.bool false)]] []) else some (Res.mk [XV.mk false [X.c (X0.dat Ty.bool false)]] [])) else some (Res.mk [XV.mk false [X.c (X0.dat Ty.bool false)]] [])) := by kernel_rfl
theorem f1091_form (x0 : ByteArray) (x1 : Int) (x2 : ByteArray) (x3 : ByteArray) (x4 : Int) (x5 : List (ByteArray × List (ByteArray × Int × Bool) × Int × List (ByteArray × List Int))) : (chk (Sp.f1092_pre x5 x0) (bif (Sp.f1092 x5 x0).1.2 then chk (decide ((0 : Int) ≤ (Sp.f1092 x5 x0).1.1) && decide ((Sp.f1092 x5 x0).1.1 < (↑x5.length : Int))) (bif (Sp.f70 x1 (-1 : Int) (IntKind.i64.wrap ((↑(x5.getD (Sp.f1092 x5 x0).1.1.toNat (ByteArray.mk #[], [], (0 : Int), [])).2.2.2.length : Int) - (1 : Int)))).1 then bif decide ((↑x2.size : Int) ≤ (200 : Int)) then bif decide ((↑x3.size : Int) ≤ (200 : Int)) then some (Res.mk [XV.mk false [X.c (X0.dat Ty.bool (Sp.f70 x4 (0 : Int) (1000 : Int)).1)]] []) else some (Res.mk [XV.mk false [X.c (X0.dat Ty.bool false)]] []) else some (Res.mk [XV.mk false [X.c (X0.dat Ty.bool false)]] []) else some (Res.mk [XV.mk false [X.c (X0.dat Ty.bool false)]] [])) else some (Res.mk [XV.mk false [X.c (X0.dat Ty.bool false)]] []))) = chk (Sp.f1091_pre x0 x1 x2 x3 x4 x5) (some (f1091_g (Sp.f1091 x0 x1 x2 x3 x4 x5))) := by
  unfold Sp.f1091_pre Sp.f1091
  exact (chk_step ((cond_step f1091_g ((chk_last ((cond_plain f1091_g ((cond_plain f1091_g ((cond_plain f1091_g (rfl) (rfl))) (rfl))) (rfl))))) ((lift_plain (rfl))))))
theorem e1091_ok : Valid PP Γ e1091 := valid_auto ok (vcons e1092_ok (vcons e70_ok vnil)) fun a => (f1091_raw a.1.1 a.1.2.1 a.1.2.2.1 a.1.2.2.2.1 a.1.2.2.2.2 a.2).trans (f1091_form a.1.1 a.1.2.1 a.1.2.2.1 a.1.2.2.2.1 a.1.2.2.2.2 a.2)

def Sp.f1069_pre (x0 : ByteArray) (x1 : Int) (x2 : ByteArray) (x3 : ByteArray) (x4 : Int) (x5 : List (ByteArray × List (ByteArray × Int × Bool) × Int × List (ByteArray × List Int))) : Bool := (bif decide ((↑x5.length : Int) > (4096 : Int)) then true else (Sp.fineTs x5 && (bif !Sp.catOK x5 then true else (Sp.f1091_pre x0 x1 x2 x3 x4 x5 && (bif !(Sp.f1091 x0 x1 x2 x3 x4 x5).1 then true else (bif x4 == (0 : Int) then decide (x0.size + (4 : Nat) ≤ (9223372036854775807 : Nat)) else (bif decide (x1 ≥ (0 : Int)) then (Sp.f1092_pre x5 x0 && (decide ((0 : Int) ≤ (Sp.f1092 x5 x0).1.1) && decide ((Sp.f1092 x5 x0).1.1 < (↑x5.length : Int)) && (decide ((0 : Int) ≤ x1) && decide (x1 < (↑(x5.getD (Sp.f1092 x5 x0).1.1.toNat (ByteArray.mk #[], [], (0 : Int), [])).2.2.2.length : Int)) && (decide ((6 : Nat) + ((x5.getD (Sp.f1092 x5 x0).1.1.toNat (ByteArray.mk #[], [], (0 : Int), [])).2.2.2.getD x1.toNat (ByteArray.mk #[], [])).1.size ≤ (9223372036854775807 : Nat)) && (decide (x0.size + (1 : Nat) ≤ (9223372036854775807 : Nat)) && (decide ((x0 ++ ByteArray.mk #[(32 : UInt8)]).size + (ByteArray.mk #[(105 : UInt8), (110 : UInt8), (100 : UInt8), (101 : UInt8), (120 : UInt8), (32 : UInt8)] ++ ((x5.getD (Sp.f1092 x5 x0).1.1.toNat (ByteArray.mk #[], [], (0 : Int), [])).2.2.2.getD x1.toNat (ByteArray.mk #[], [])).1).size ≤ (9223372036854775807 : Nat)) && (decide ((x0 ++ ByteArray.mk #[(32 : UInt8)] ++ (ByteArray.mk #[(105 : UInt8), (110 : UInt8), (100 : UInt8), (101 : UInt8), (120 : UInt8), (32 : UInt8)] ++ ((x5.getD (Sp.f1092 x5 x0).1.1.toNat (ByteArray.mk #[], [], (0 : Int), [])).2.2.2.getD x1.toNat (ByteArray.mk #[], [])).1)).size + (6 : Nat) ≤ (9223372036854775807 : Nat)) && (Sp.short x2 && (decide ((x0 ++ ByteArray.mk #[(32 : UInt8)] ++ (ByteArray.mk #[(105 : UInt8), (110 : UInt8), (100 : UInt8), (101 : UInt8), (120 : UInt8), (32 : UInt8)] ++ ((x5.getD (Sp.f1092 x5 x0).1.1.toNat (ByteArray.mk #[], [], (0 : Int), [])).2.2.2.getD x1.toNat (ByteArray.mk #[], [])).1) ++ ByteArray.mk #[(32 : UInt8), (102 : UInt8), (114 : UInt8), (111 : UInt8), (109 : UInt8), (32 : UInt8)]).size + (Sp.hexI x2).size ≤ (9223372036854775807 : Nat)) && (decide ((x0 ++ ByteArray.mk #[(32 : UInt8)] ++ (ByteArray.mk #[(105 : UInt8), (110 : UInt8), (100 : UInt8), (101 : UInt8), (120 : UInt8), (32 : UInt8)] ++ ((x5.getD (Sp.f1092 x5 x0).1.1.toNat (ByteArray.mk #[], [], (0 : Int), [])).2.2.2.getD x1.toNat (ByteArray.mk #[], [])).1) ++ ByteArray.mk #[(32 : UInt8), (102 : UInt8), (114 : UInt8), (111 : UInt8), (109 : UInt8), (32 : UInt8)] ++ Sp.hexI x2).size + (7 : Nat) ≤ (9223372036854775807 : Nat)) && (Sp.short x3 && decide ((x0 ++ ByteArray.mk #[(32 : UInt8)] ++ (ByteArray.mk #[(105 : UInt8), (110 : UInt8), (100 : UInt8), (101 : UInt8), (120 : UInt8), (32 : UInt8)] ++ ((x5.getD (Sp.f1092 x5 x0).1.1.toNat (ByteArray.mk #[], [], (0 : Int), [])).2.2.2.getD x1.toNat (ByteArray.mk #[], [])).1) ++ ByteArray.mk #[(32 : UInt8), (102 : UInt8), (114 : UInt8), (111 : UInt8), (109 : UInt8), (32 : UInt8)] ++ Sp.hexI x2 ++ ByteArray.mk #[(32 : UInt8), (98 : UInt8), (101 : UInt8), (108 : UInt8), (111 : UInt8), (119 : UInt8), (32 : UInt8)]).size + (Sp.hexI x3).size ≤ (9223372036854775807 : Nat))))))))))))) else (decide (x0.size + (1 : Nat) ≤ (9223372036854775807 : Nat)) && (decide ((x0 ++ ByteArray.mk #[(32 : UInt8)]).size + (3 : Nat) ≤ (9223372036854775807 : Nat)) && (decide ((x0 ++ ByteArray.mk #[(32 : UInt8)] ++ ByteArray.mk #[(107 : UInt8), (101 : UInt8), (121 : UInt8)]).size + (6 : Nat) ≤ (9223372036854775807 : Nat)) && (Sp.short x2 && (decide ((x0 ++ ByteArray.mk #[(32 : UInt8)] ++ ByteArray.mk #[(107 : UInt8), (101 : UInt8), (121 : UInt8)] ++ ByteArray.mk #[(32 : UInt8), (102 : UInt8), (114 : UInt8), (111 : UInt8), (109 : UInt8), (32 : UInt8)]).size + (Sp.hexI x2).size ≤ (9223372036854775807 : Nat)) && (decide ((x0 ++ ByteArray.mk #[(32 : UInt8)] ++ ByteArray.mk #[(107 : UInt8), (101 : UInt8), (121 : UInt8)] ++ ByteArray.mk #[(32 : UInt8), (102 : UInt8), (114 : UInt8), (111 : UInt8), (109 : UInt8), (32 : UInt8)] ++ Sp.hexI x2).size + (7 : Nat) ≤ (9223372036854775807 : Nat)) && (Sp.short x3 && decide ((x0 ++ ByteArray.mk #[(32 : UInt8)] ++ ByteArray.mk #[(107 : UInt8), (101 : UInt8), (121 : UInt8)] ++ ByteArray.mk #[(32 : UInt8), (102 : UInt8), (114 : UInt8), (111 : UInt8), (109 : UInt8), (32 : UInt8)] ++ Sp.hexI x2 ++ ByteArray.mk #[(32 : UInt8), (98 : UInt8), (101 : UInt8), (108 : UInt8), (111 : UInt8), (119 : UInt8), (32 : UInt8)]).size + (Sp.hexI x3).size ≤ (9223372036854775807 : Nat))))))))))))))))
def Sp.f1069 (x0 : ByteArray) (x1 : Int) (x2 : ByteArray) (x3 : ByteArray) (x4 : Int) (x5 : List (ByteArray × List (ByteArray × Int × Bool) × Int × List (ByteArray × List Int))) := (bif decide ((↑x5.length : Int) > (4096 : Int)) then ((ByteArray.mk #[], (2 : Int)), ()) else (bif !Sp.catOK x5 then ((ByteArray.mk #[], (1 : Int)), ()) else (bif !(Sp.f1091 x0 x1 x2 x3 x4 x5).1 then ((ByteArray.mk #[], (1 : Int)), ()) else (bif x4 == (0 : Int) then ((x0 ++ ByteArray.mk #[(32 : UInt8), (97 : UInt8), (108 : UInt8), (108 : UInt8)], (0 : Int)), ()) else (bif decide (x1 ≥ (0 : Int)) then ((x0 ++ ByteArray.mk #[(32 : UInt8)] ++ (ByteArray.mk #[(105 : UInt8), (110 : UInt8), (100 : UInt8), (101 : UInt8), (120 : UInt8), (32 : UInt8)] ++ ((x5.getD (Sp.f1092 x5 x0).1.1.toNat (ByteArray.mk #[], [], (0 : Int), [])).2.2.2.getD x1.toNat (ByteArray.mk #[], [])).1) ++ ByteArray.mk #[(32 : UInt8), (102 : UInt8), (114 : UInt8), (111 : UInt8), (109 : UInt8), (32 : UInt8)] ++ Sp.hexI x2 ++ ByteArray.mk #[(32 : UInt8), (98 : UInt8), (101 : UInt8), (108 : UInt8), (111 : UInt8), (119 : UInt8), (32 : UInt8)] ++ Sp.hexI x3, (0 : Int)), ()) else ((x0 ++ ByteArray.mk #[(32 : UInt8)] ++ ByteArray.mk #[(107 : UInt8), (101 : UInt8), (121 : UInt8)] ++ ByteArray.mk #[(32 : UInt8), (102 : UInt8), (114 : UInt8), (111 : UInt8), (109 : UInt8), (32 : UInt8)] ++ Sp.hexI x2 ++ ByteArray.mk #[(32 : UInt8), (98 : UInt8), (101 : UInt8), (108 : UInt8), (111 : UInt8), (119 : UInt8), (32 : UInt8)] ++ Sp.hexI x3, (0 : Int)), ()))))))
noncomputable def e1069 : Ent := { f := 13, ins := [Sh.agg [C0.dat Ty.str, C0.dat (Ty.int IntKind.i64), C0.dat Ty.str, C0.dat Ty.str, C0.dat (Ty.int IntKind.i64)], Sh.one (C0.dat (Ty.str.pair ((Ty.str.pair ((Ty.int IntKind.i64).pair Ty.bool)).slice.pair ((Ty.int IntKind.i64).pair (Ty.str.pair (Ty.int IntKind.i64).slice).slice))).slice)], outs := [Sh.one (C0.dat Ty.str), Sh.one (C0.dat (Ty.int IntKind.i64))], upd := [], pre := fun a => Sp.f1069_pre a.1.1 a.1.2.1 a.1.2.2.1 a.1.2.2.2.1 a.1.2.2.2.2 a.2, spec := fun a => (Sp.f1069 a.1.1 a.1.2.1 a.1.2.2.1 a.1.2.2.2.1 a.1.2.2.2.2 a.2).1, wrt := fun a => (Sp.f1069 a.1.1 a.1.2.1 a.1.2.2.1 a.1.2.2.2.1 a.1.2.2.2.2 a.2).2 }
def f1069_g (v : denS [Sh.one (C0.dat Ty.str), Sh.one (C0.dat (Ty.int IntKind.i64))] × denS []) : Res := ⟨mkS [Sh.one (C0.dat Ty.str), Sh.one (C0.dat (Ty.int IntKind.i64))] v.1, mkU [] v.2⟩
theorem f1069_raw (x0 : ByteArray) (x1 : Int) (x2 : ByteArray) (x3 : ByteArray) (x4 : Int) (x5 : List (ByteArray × List (ByteArray × Int × Bool) × Int × List (ByteArray × List Int))) : abody Γ (orc [e1090, e1091, e1092, e1093]) 0 13 [XV.mk true [X.c (X0.dat Ty.str x0), X.c (X0.dat (Ty.int IntKind.i64) x1), X.c (X0.dat Ty.str x2), X.c (X0.dat Ty.str x3), X.c (X0.dat (Ty.int IntKind.i64) x4)], XV.mk false [X.c (X0.dat (Ty.str.pair ((Ty.str.pair ((Ty.int IntKind.i64).pair Ty.bool)).slice.pair ((Ty.int IntKind.i64).pair (Ty.str.pair (Ty.int IntKind.i64).slice).slice))).slice x5)]] = bif decide ((↑x5.length : Int) > (4096 : Int)) then some (Res.mk [XV.mk false [X.c (X0.dat Ty.str (ByteArray.mk #[]))], XV.mk false [X.c (X0.dat (Ty.int IntKind.i64) (2 : Int))]] []) else chk (Sp.fineTs x5) (bif !Sp.catOK x5 then some (Res.mk [XV.mk false [X.c (X0.dat Ty.str (ByteArray.mk #[]))], XV.mk false [X.c (X0.dat (Ty.int IntKind.i64) (1 : Int))]] []) else chk (Sp.f1091_pre x0 x1 x2 x3 x4 x5) (bif !(Sp.f1091 x0 x1 x2 x3 x4 x5).1 then some (Res.mk [XV.mk false [X.c (X0.dat Ty.str (ByteArray.mk #[]))], XV.mk false [X.c (X0.dat (Ty.int IntKind.i64) (1 : Int))]] []) else bif x4 == (0 : Int) then chk (decide (x0.size + (4 : Nat) ≤ (9223372036854775807 : Nat))) (some (Res.mk [XV.mk false [X.c (X0.dat Ty.str (x0 ++ ByteArray.mk #[(32 : UInt8), (97 : UInt8), (108 : UInt8), (108 : UInt8)]))], XV.mk false [X.c (X0.dat (Ty.int IntKind.i64) (0 : Int))]] [])) else bif decide (x1 ≥ (0 : Int)) then chk (Sp.f1092_pre x5 x0) (chk (decide ((0 : Int) ≤ (Sp.f1092 x5 x0).1.1) && decide ((Sp.f1092 x5 x0).1.1 < (↑x5.length : Int))) (chk (decide ((0 : Int) ≤ x1) && decide (x1 < (↑(x5.getD (Sp.f1092 x5 x0).1.1.toNat (ByteArray.mk #[], [], (0 : Int), [])).2.2.2.length : Int))) (chk (decide ((6 : Nat) + ((x5.getD (Sp.f1092 x5 x0).1.1.toNat (ByteArray.mk #[], [], (0 : Int), [])).2.2.2.getD x1.toNat (ByteArray.mk #[], [])).1.size ≤ (9223372036854775807 : Nat))) (chk (decide (x0.size + (1 : Nat) ≤ (9223372036854775807 : Nat))) (chk (decide ((x0 ++ ByteArray.mk #[(32 : UInt8)]).size + (ByteArray.mk #[(105 : UInt8), (110 : UInt8), (100 : UInt8), (101 : UInt8), (120 : UInt8), (32 : UInt8)] ++ ((x5.getD (Sp.f1092 x5 x0).1.1.toNat (ByteArray.mk #[], [], (0 : Int), [])).2.2.2.getD x1.toNat (ByteArray.mk #[], [])).1).size ≤ (9223372036854775807 : Nat))) (chk (decide ((x0 ++ ByteArray.mk #[(32 : UInt8)] ++ (ByteArray.mk #[(105 : UInt8), (110 : UInt8), (100 : UInt8), (101 : UInt8), (120 : UInt8), (32 : UInt8)] ++ ((x5.getD (Sp.f1092 x5 x0).1.1.toNat (ByteArray.mk #[], [], (0 : Int), [])).2.2.2.getD x1.toNat (ByteArray.mk #[], [])).1)).size + (6 : Nat) ≤ (9223372036854775807 : Nat))) (chk (Sp.short x2) (chk (decide ((x0 ++ ByteArray.mk #[(32 : UInt8)] ++ (ByteArray.mk #[(105 : UInt8), (110 : UInt8), (100 : UInt8), (101 : UInt8), (120 : UInt8), (32 : UInt8)] ++ ((x5.getD (Sp.f1092 x5 x0).1.1.toNat (ByteArray.mk #[], [], (0 : Int), [])).2.2.2.getD x1.toNat (ByteArray.mk #[], [])).1) ++ ByteArray.mk #[(32 : UInt8), (102 : UInt8), (114 : UInt8), (111 : UInt8), (109 : UInt8), (32 : UInt8)]).size + (Sp.hexI x2).size ≤ (9223372036854775807 : Nat))) (chk (decide ((x0 ++ ByteArray.mk #[(32 : UInt8)] ++ (ByteArray.mk #[(105 : UInt8), (110 : UInt8), (100 : UInt8), (101 : UInt8), (120 : UInt8), (32 : UInt8)] ++ ((x5.getD (Sp.f1092 x5 x0).1.1.toNat (ByteArray.mk #[], [], (0 : Int), [])).2.2.2.getD x1.toNat (ByteArray.mk #[], [])).1) ++ ByteArray.mk #[(32 : UInt8), (102 : UInt8), (114 : UInt8), (111 : UInt8), (109 : UInt8), (32 : UInt8)] ++ Sp.hexI x2).size + (7 : Nat) ≤ (9223372036854775807 : Nat))) (chk (Sp.short x3) (chk (decide ((x0 ++ ByteArray.mk #[(32 : UInt8)] ++ (ByteArray.mk #[(105 : UInt8), (110 : UInt8), (100 : UInt8), (101 : UInt8), (120 : UInt8), (32 : UInt8)] ++ ((x5.getD (Sp.f1092 x5 x0).1.1.toNat (ByteArray.mk #[], [], (0 : Int), [])).2.2.2.getD x1.toNat (ByteArray.mk #[], [])).1) ++ ByteArray.mk #[(32 : UInt8), (102 : UInt8), (114 : UInt8), (111 : UInt8), (109 : UInt8), (32 : UInt8)] ++ Sp.hexI x2 ++ ByteArray.mk #[(32 : UInt8), (98 : UInt8), (101 : UInt8), (108 : UInt8), (111 : UInt8), (119 : UInt8), (32 : UInt8)]).size + (Sp.hexI x3).size ≤ (9223372036854775807 : Nat))) (some (Res.mk [XV.mk false [X.c (X0.dat Ty.str (x0 ++ ByteArray.mk #[(32 : UInt8)] ++ (ByteArray.mk #[(105 : UInt8), (110 : UInt8), (100 : UInt8), (101 : UInt8), (120 : UInt8), (32 : UInt8)] ++ ((x5.getD (Sp.f1092 x5 x0).1.1.toNat (ByteArray.mk #[], [], (0 : Int), [])).2.2.2.getD x1.toNat (ByteArray.mk #[], [])).1) ++ ByteArray.mk #[(32 : UInt8), (102 : UInt8), (114 : UInt8), (111 : UInt8), (109 : UInt8), (32 : UInt8)] ++ Sp.hexI x2 ++ ByteArray.mk #[(32 : UInt8), (98 : UInt8), (101 : UInt8), (108 : UInt8), (111 : UInt8), (119 : UInt8), (32 : UInt8)] ++ Sp.hexI x3))], XV.mk false [X.c (X0.dat (Ty.int IntKind.i64) (0 : Int))]] []))))))))))))) else chk (decide (x0.size + (1 : Nat) ≤ (9223372036854775807 : Nat))) (chk (decide ((x0 ++ ByteArray.mk #[(32 : UInt8)]).size + (3 : Nat) ≤ (9223372036854775807 : Nat))) (chk (decide ((x0 ++ ByteArray.mk #[(32 : UInt8)] ++ ByteArray.mk #[(107 : UInt8), (101 : UInt8), (121 : UInt8)]).size + (6 : Nat) ≤ (9223372036854775807 : Nat))) (chk (Sp.short x2) (chk (decide ((x0 ++ ByteArray.mk #[(32 : UInt8)] ++ ByteArray.mk #[(107 : UInt8), (101 : UInt8), (121 : UInt8)] ++ ByteArray.mk #[(32 : UInt8), (102 : UInt8), (114 : UInt8), (111 : UInt8), (109 : UInt8), (32 : UInt8)]).size + (Sp.hexI x2).size ≤ (9223372036854775807 : Nat))) (chk (decide ((x0 ++ ByteArray.mk #[(32 : UInt8)] ++ ByteArray.mk #[(107 : UInt8), (101 : UInt8), (121 : UInt8)] ++ ByteArray.mk #[(32 : UInt8), (102 : UInt8), (114 : UInt8), (111 : UInt8), (109 : UInt8), (32 : UInt8)] ++ Sp.hexI x2).size + (7 : Nat) ≤ (9223372036854775807 : Nat))) (chk (Sp.short x3) (chk (decide ((x0 ++ ByteArray.mk #[(32 : UInt8)] ++ ByteArray.mk #[(107 : UInt8), (101 : UInt8), (121 : UInt8)] ++ ByteArray.mk #[(32 : UInt8), (102 : UInt8), (114 : UInt8), (111 : UInt8), (109 : UInt8), (32 : UInt8)] ++ Sp.hexI x2 ++ ByteArray.mk #[(32 : UInt8), (98 : UInt8), (101 : UInt8), (108 : UInt8), (111 : UInt8), (119 : UInt8), (32 : UInt8)]).size + (Sp.hexI x3).size ≤ (9223372036854775807 : Nat))) (some (Res.mk [XV.mk false [X.c (X0.dat Ty.str (x0 ++ ByteArray.mk #[(32 : UInt8)] ++ ByteArray.mk #[(107 : UInt8), (101 : UInt8), (121 : UInt8)] ++ ByteArray.mk #[(32 : UInt8), (102 : UInt8), (114 : UInt8), (111 : UInt8), (109 : UInt8), (32 : UInt8)] ++ Sp.hexI x2 ++ ByteArray.mk #[(32 : UInt8), (98 : UInt8), (101 : UInt8), (108 : UInt8), (111 : UInt8), (119 : UInt8), (32 : UInt8)] ++ Sp.hexI x3))], XV.mk false [X.c (X0.dat (Ty.int IntKind.i64) (0 : Int))]] []))))))))))) := by kernel_rfl
theorem f1069_form (x0 : ByteArray) (x1 : Int) (x2 : ByteArray) (x3 : ByteArray) (x4 : Int) (x5 : List (ByteArray × List (ByteArray × Int × Bool) × Int × List (ByteArray × List Int))) : (bif decide ((↑x5.length : Int) > (4096 : Int)) then some (Res.mk [XV.mk false [X.c (X0.dat Ty.str (ByteArray.mk #[]))], XV.mk false [X.c (X0.dat (Ty.int IntKind.i64) (2 : Int))]] []) else chk (Sp.fineTs x5) (bif !Sp.catOK x5 then some (Res.mk [XV.mk false [X.c (X0.dat Ty.str (ByteArray.mk #[]))], XV.mk false [X.c (X0.dat (Ty.int IntKind.i64) (1 : Int))]] []) else chk (Sp.f1091_pre x0 x1 x2 x3 x4 x5) (bif !(Sp.f1091 x0 x1 x2 x3 x4 x5).1 then some (Res.mk [XV.mk false [X.c (X0.dat Ty.str (ByteArray.mk #[]))], XV.mk false [X.c (X0.dat (Ty.int IntKind.i64) (1 : Int))]] []) else bif x4 == (0 : Int) then chk (decide (x0.size + (4 : Nat) ≤ (9223372036854775807 : Nat))) (some (Res.mk [XV.mk false [X.c (X0.dat Ty.str (x0 ++ ByteArray.mk #[(32 : UInt8), (97 : UInt8), (108 : UInt8), (108 : UInt8)]))], XV.mk false [X.c (X0.dat (Ty.int IntKind.i64) (0 : Int))]] [])) else bif decide (x1 ≥ (0 : Int)) then chk (Sp.f1092_pre x5 x0) (chk (decide ((0 : Int) ≤ (Sp.f1092 x5 x0).1.1) && decide ((Sp.f1092 x5 x0).1.1 < (↑x5.length : Int))) (chk (decide ((0 : Int) ≤ x1) && decide (x1 < (↑(x5.getD (Sp.f1092 x5 x0).1.1.toNat (ByteArray.mk #[], [], (0 : Int), [])).2.2.2.length : Int))) (chk (decide ((6 : Nat) + ((x5.getD (Sp.f1092 x5 x0).1.1.toNat (ByteArray.mk #[], [], (0 : Int), [])).2.2.2.getD x1.toNat (ByteArray.mk #[], [])).1.size ≤ (9223372036854775807 : Nat))) (chk (decide (x0.size + (1 : Nat) ≤ (9223372036854775807 : Nat))) (chk (decide ((x0 ++ ByteArray.mk #[(32 : UInt8)]).size + (ByteArray.mk #[(105 : UInt8), (110 : UInt8), (100 : UInt8), (101 : UInt8), (120 : UInt8), (32 : UInt8)] ++ ((x5.getD (Sp.f1092 x5 x0).1.1.toNat (ByteArray.mk #[], [], (0 : Int), [])).2.2.2.getD x1.toNat (ByteArray.mk #[], [])).1).size ≤ (9223372036854775807 : Nat))) (chk (decide ((x0 ++ ByteArray.mk #[(32 : UInt8)] ++ (ByteArray.mk #[(105 : UInt8), (110 : UInt8), (100 : UInt8), (101 : UInt8), (120 : UInt8), (32 : UInt8)] ++ ((x5.getD (Sp.f1092 x5 x0).1.1.toNat (ByteArray.mk #[], [], (0 : Int), [])).2.2.2.getD x1.toNat (ByteArray.mk #[], [])).1)).size + (6 : Nat) ≤ (9223372036854775807 : Nat))) (chk (Sp.short x2) (chk (decide ((x0 ++ ByteArray.mk #[(32 : UInt8)] ++ (ByteArray.mk #[(105 : UInt8), (110 : UInt8), (100 : UInt8), (101 : UInt8), (120 : UInt8), (32 : UInt8)] ++ ((x5.getD (Sp.f1092 x5 x0).1.1.toNat (ByteArray.mk #[], [], (0 : Int), [])).2.2.2.getD x1.toNat (ByteArray.mk #[], [])).1) ++ ByteArray.mk #[(32 : UInt8), (102 : UInt8), (114 : UInt8), (111 : UInt8), (109 : UInt8), (32 : UInt8)]).size + (Sp.hexI x2).size ≤ (9223372036854775807 : Nat))) (chk (decide ((x0 ++ ByteArray.mk #[(32 : UInt8)] ++ (ByteArray.mk #[(105 : UInt8), (110 : UInt8), (100 : UInt8), (101 : UInt8), (120 : UInt8), (32 : UInt8)] ++ ((x5.getD (Sp.f1092 x5 x0).1.1.toNat (ByteArray.mk #[], [], (0 : Int), [])).2.2.2.getD x1.toNat (ByteArray.mk #[], [])).1) ++ ByteArray.mk #[(32 : UInt8), (102 : UInt8), (114 : UInt8), (111 : UInt8), (109 : UInt8), (32 : UInt8)] ++ Sp.hexI x2).size + (7 : Nat) ≤ (9223372036854775807 : Nat))) (chk (Sp.short x3) (chk (decide ((x0 ++ ByteArray.mk #[(32 : UInt8)] ++ (ByteArray.mk #[(105 : UInt8), (110 : UInt8), (100 : UInt8), (101 : UInt8), (120 : UInt8), (32 : UInt8)] ++ ((x5.getD (Sp.f1092 x5 x0).1.1.toNat (ByteArray.mk #[], [], (0 : Int), [])).2.2.2.getD x1.toNat (ByteArray.mk #[], [])).1) ++ ByteArray.mk #[(32 : UInt8), (102 : UInt8), (114 : UInt8), (111 : UInt8), (109 : UInt8), (32 : UInt8)] ++ Sp.hexI x2 ++ ByteArray.mk #[(32 : UInt8), (98 : UInt8), (101 : UInt8), (108 : UInt8), (111 : UInt8), (119 : UInt8), (32 : UInt8)]).size + (Sp.hexI x3).size ≤ (9223372036854775807 : Nat))) (some (Res.mk [XV.mk false [X.c (X0.dat Ty.str (x0 ++ ByteArray.mk #[(32 : UInt8)] ++ (ByteArray.mk #[(105 : UInt8), (110 : UInt8), (100 : UInt8), (101 : UInt8), (120 : UInt8), (32 : UInt8)] ++ ((x5.getD (Sp.f1092 x5 x0).1.1.toNat (ByteArray.mk #[], [], (0 : Int), [])).2.2.2.getD x1.toNat (ByteArray.mk #[], [])).1) ++ ByteArray.mk #[(32 : UInt8), (102 : UInt8), (114 : UInt8), (111 : UInt8), (109 : UInt8), (32 : UInt8)] ++ Sp.hexI x2 ++ ByteArray.mk #[(32 : UInt8), (98 : UInt8), (101 : UInt8), (108 : UInt8), (111 : UInt8), (119 : UInt8), (32 : UInt8)] ++ Sp.hexI x3))], XV.mk false [X.c (X0.dat (Ty.int IntKind.i64) (0 : Int))]] []))))))))))))) else chk (decide (x0.size + (1 : Nat) ≤ (9223372036854775807 : Nat))) (chk (decide ((x0 ++ ByteArray.mk #[(32 : UInt8)]).size + (3 : Nat) ≤ (9223372036854775807 : Nat))) (chk (decide ((x0 ++ ByteArray.mk #[(32 : UInt8)] ++ ByteArray.mk #[(107 : UInt8), (101 : UInt8), (121 : UInt8)]).size + (6 : Nat) ≤ (9223372036854775807 : Nat))) (chk (Sp.short x2) (chk (decide ((x0 ++ ByteArray.mk #[(32 : UInt8)] ++ ByteArray.mk #[(107 : UInt8), (101 : UInt8), (121 : UInt8)] ++ ByteArray.mk #[(32 : UInt8), (102 : UInt8), (114 : UInt8), (111 : UInt8), (109 : UInt8), (32 : UInt8)]).size + (Sp.hexI x2).size ≤ (9223372036854775807 : Nat))) (chk (decide ((x0 ++ ByteArray.mk #[(32 : UInt8)] ++ ByteArray.mk #[(107 : UInt8), (101 : UInt8), (121 : UInt8)] ++ ByteArray.mk #[(32 : UInt8), (102 : UInt8), (114 : UInt8), (111 : UInt8), (109 : UInt8), (32 : UInt8)] ++ Sp.hexI x2).size + (7 : Nat) ≤ (9223372036854775807 : Nat))) (chk (Sp.short x3) (chk (decide ((x0 ++ ByteArray.mk #[(32 : UInt8)] ++ ByteArray.mk #[(107 : UInt8), (101 : UInt8), (121 : UInt8)] ++ ByteArray.mk #[(32 : UInt8), (102 : UInt8), (114 : UInt8), (111 : UInt8), (109 : UInt8), (32 : UInt8)] ++ Sp.hexI x2 ++ ByteArray.mk #[(32 : UInt8), (98 : UInt8), (101 : UInt8), (108 : UInt8), (111 : UInt8), (119 : UInt8), (32 : UInt8)]).size + (Sp.hexI x3).size ≤ (9223372036854775807 : Nat))) (some (Res.mk [XV.mk false [X.c (X0.dat Ty.str (x0 ++ ByteArray.mk #[(32 : UInt8)] ++ ByteArray.mk #[(107 : UInt8), (101 : UInt8), (121 : UInt8)] ++ ByteArray.mk #[(32 : UInt8), (102 : UInt8), (114 : UInt8), (111 : UInt8), (109 : UInt8), (32 : UInt8)] ++ Sp.hexI x2 ++ ByteArray.mk #[(32 : UInt8), (98 : UInt8), (101 : UInt8), (108 : UInt8), (111 : UInt8), (119 : UInt8), (32 : UInt8)] ++ Sp.hexI x3))], XV.mk false [X.c (X0.dat (Ty.int IntKind.i64) (0 : Int))]] [])))))))))))) = chk (Sp.f1069_pre x0 x1 x2 x3 x4 x5) (some (f1069_g (Sp.f1069 x0 x1 x2 x3 x4 x5))) := by
  unfold Sp.f1069_pre Sp.f1069
  exact (cond_step f1069_g ((lift_plain (rfl))) ((chk_step ((cond_step f1069_g ((lift_plain (rfl))) ((chk_step ((cond_step f1069_g ((lift_plain (rfl))) ((cond_step f1069_g ((chk_last (rfl))) ((cond_step f1069_g ((chk_step ((chk_step ((chk_step ((chk_step ((chk_step ((chk_step ((chk_step ((chk_step ((chk_step ((chk_step ((chk_step ((chk_last (rfl))))))))))))))))))))))))) ((chk_step ((chk_step ((chk_step ((chk_step ((chk_step ((chk_step ((chk_step ((chk_last (rfl))))))))))))))))))))))))))))))
theorem e1069_ok : Valid PP Γ e1069 := valid_auto ok (vcons e1090_ok (vcons e1091_ok (vcons e1092_ok (vcons e1093_ok vnil)))) fun a => (f1069_raw a.1.1 a.1.2.1 a.1.2.2.1 a.1.2.2.2.1 a.1.2.2.2.2 a.2).trans (f1069_form a.1.1 a.1.2.1 a.1.2.2.1 a.1.2.2.2.1 a.1.2.2.2.2 a.2)

def Sp.f1059_pre (x0 : ByteArray) (x1 : Int) (x2 : ByteArray) (x3 : ByteArray) (x4 : Int) (x5 : List (ByteArray × List (ByteArray × Int × Bool) × Int × List (ByteArray × List Int))) : Bool := (bif decide ((Sp.f1064 x0 x1 x2 x3 x4 (1048576 : Int)).1 < (0 : Int)) then true else (bif decide (Sp.szE Sp.szTb x5 (Sp.f1064 x0 x1 x2 x3 x4 (1048576 : Int)).1 < (0 : Int)) then true else (Sp.fits1068 x5 && (Sp.f1066_pre (Sp.f1067 x0 x1 x2 x3 x4).1.1 (Sp.f1067 x0 x1 x2 x3 x4).1.2.1 (Sp.f1067 x0 x1 x2 x3 x4).1.2.2.1 (Sp.f1067 x0 x1 x2 x3 x4).1.2.2.2.1 (Sp.f1067 x0 x1 x2 x3 x4).1.2.2.2.2 x5 && (Sp.fits1068 x5 && (Sp.f1069_pre (Sp.f1067 x0 x1 x2 x3 x4).1.1 (Sp.f1067 x0 x1 x2 x3 x4).1.2.1 (Sp.f1067 x0 x1 x2 x3 x4).1.2.2.1 (Sp.f1067 x0 x1 x2 x3 x4).1.2.2.2.1 (Sp.f1067 x0 x1 x2 x3 x4).1.2.2.2.2 x5 && (bif !(Sp.f1069 (Sp.f1067 x0 x1 x2 x3 x4).1.1 (Sp.f1067 x0 x1 x2 x3 x4).1.2.1 (Sp.f1067 x0 x1 x2 x3 x4).1.2.2.1 (Sp.f1067 x0 x1 x2 x3 x4).1.2.2.2.1 (Sp.f1067 x0 x1 x2 x3 x4).1.2.2.2.2 x5).1.1.toList == (Sp.f1066 (Sp.f1067 x0 x1 x2 x3 x4).1.1 (Sp.f1067 x0 x1 x2 x3 x4).1.2.1 (Sp.f1067 x0 x1 x2 x3 x4).1.2.2.1 (Sp.f1067 x0 x1 x2 x3 x4).1.2.2.2.1 (Sp.f1067 x0 x1 x2 x3 x4).1.2.2.2.2 x5).1.1.toList then true else (bif (Sp.f1069 (Sp.f1067 x0 x1 x2 x3 x4).1.1 (Sp.f1067 x0 x1 x2 x3 x4).1.2.1 (Sp.f1067 x0 x1 x2 x3 x4).1.2.2.1 (Sp.f1067 x0 x1 x2 x3 x4).1.2.2.2.1 (Sp.f1067 x0 x1 x2 x3 x4).1.2.2.2.2 x5).1.2 != (Sp.f1066 (Sp.f1067 x0 x1 x2 x3 x4).1.1 (Sp.f1067 x0 x1 x2 x3 x4).1.2.1 (Sp.f1067 x0 x1 x2 x3 x4).1.2.2.1 (Sp.f1067 x0 x1 x2 x3 x4).1.2.2.2.1 (Sp.f1067 x0 x1 x2 x3 x4).1.2.2.2.2 x5).1.2 then true else (Sp.fits1068 x5)))))))))
def Sp.f1059 (x0 : ByteArray) (x1 : Int) (x2 : ByteArray) (x3 : ByteArray) (x4 : Int) (x5 : List (ByteArray × List (ByteArray × Int × Bool) × Int × List (ByteArray × List Int))) := (bif decide ((Sp.f1064 x0 x1 x2 x3 x4 (1048576 : Int)).1 < (0 : Int)) then (true, ()) else (bif decide (Sp.szE Sp.szTb x5 (Sp.f1064 x0 x1 x2 x3 x4 (1048576 : Int)).1 < (0 : Int)) then (true, ()) else (bif !(Sp.f1069 (Sp.f1067 x0 x1 x2 x3 x4).1.1 (Sp.f1067 x0 x1 x2 x3 x4).1.2.1 (Sp.f1067 x0 x1 x2 x3 x4).1.2.2.1 (Sp.f1067 x0 x1 x2 x3 x4).1.2.2.2.1 (Sp.f1067 x0 x1 x2 x3 x4).1.2.2.2.2 x5).1.1.toList == (Sp.f1066 (Sp.f1067 x0 x1 x2 x3 x4).1.1 (Sp.f1067 x0 x1 x2 x3 x4).1.2.1 (Sp.f1067 x0 x1 x2 x3 x4).1.2.2.1 (Sp.f1067 x0 x1 x2 x3 x4).1.2.2.2.1 (Sp.f1067 x0 x1 x2 x3 x4).1.2.2.2.2 x5).1.1.toList then (false, ()) else (bif (Sp.f1069 (Sp.f1067 x0 x1 x2 x3 x4).1.1 (Sp.f1067 x0 x1 x2 x3 x4).1.2.1 (Sp.f1067 x0 x1 x2 x3 x4).1.2.2.1 (Sp.f1067 x0 x1 x2 x3 x4).1.2.2.2.1 (Sp.f1067 x0 x1 x2 x3 x4).1.2.2.2.2 x5).1.2 != (Sp.f1066 (Sp.f1067 x0 x1 x2 x3 x4).1.1 (Sp.f1067 x0 x1 x2 x3 x4).1.2.1 (Sp.f1067 x0 x1 x2 x3 x4).1.2.2.1 (Sp.f1067 x0 x1 x2 x3 x4).1.2.2.2.1 (Sp.f1067 x0 x1 x2 x3 x4).1.2.2.2.2 x5).1.2 then (false, ()) else (bif !Sp.eqW Sp.eqTb x5 x5 then (false, ()) else (true, ()))))))
noncomputable def e1059 : Ent := { f := 3, ins := [Sh.agg [C0.dat Ty.str, C0.dat (Ty.int IntKind.i64), C0.dat Ty.str, C0.dat Ty.str, C0.dat (Ty.int IntKind.i64)], Sh.one (C0.dat (Ty.str.pair ((Ty.str.pair ((Ty.int IntKind.i64).pair Ty.bool)).slice.pair ((Ty.int IntKind.i64).pair (Ty.str.pair (Ty.int IntKind.i64).slice).slice))).slice)], outs := [Sh.one (C0.dat Ty.bool)], upd := [], pre := fun a => Sp.f1059_pre a.1.1 a.1.2.1 a.1.2.2.1 a.1.2.2.2.1 a.1.2.2.2.2 a.2, spec := fun a => (Sp.f1059 a.1.1 a.1.2.1 a.1.2.2.1 a.1.2.2.2.1 a.1.2.2.2.2 a.2).1, wrt := fun a => (Sp.f1059 a.1.1 a.1.2.1 a.1.2.2.1 a.1.2.2.2.1 a.1.2.2.2.2 a.2).2 }
def f1059_g (v : denS [Sh.one (C0.dat Ty.bool)] × denS []) : Res := ⟨mkS [Sh.one (C0.dat Ty.bool)] v.1, mkU [] v.2⟩
theorem f1059_raw (x0 : ByteArray) (x1 : Int) (x2 : ByteArray) (x3 : ByteArray) (x4 : Int) (x5 : List (ByteArray × List (ByteArray × Int × Bool) × Int × List (ByteArray × List Int))) : abody Γ (orc [e1064, e1065, e1067, e1068, e1066, e1069, e1070]) 0 3 [XV.mk true [X.c (X0.dat Ty.str x0), X.c (X0.dat (Ty.int IntKind.i64) x1), X.c (X0.dat Ty.str x2), X.c (X0.dat Ty.str x3), X.c (X0.dat (Ty.int IntKind.i64) x4)], XV.mk false [X.c (X0.dat (Ty.str.pair ((Ty.str.pair ((Ty.int IntKind.i64).pair Ty.bool)).slice.pair ((Ty.int IntKind.i64).pair (Ty.str.pair (Ty.int IntKind.i64).slice).slice))).slice x5)]] = bif decide ((Sp.f1064 x0 x1 x2 x3 x4 (1048576 : Int)).1 < (0 : Int)) then some (Res.mk [XV.mk false [X.c (X0.dat Ty.bool true)]] []) else bif decide (Sp.szE Sp.szTb x5 (Sp.f1064 x0 x1 x2 x3 x4 (1048576 : Int)).1 < (0 : Int)) then some (Res.mk [XV.mk false [X.c (X0.dat Ty.bool true)]] []) else chk (Sp.fits1068 x5) (chk (Sp.f1066_pre (Sp.f1067 x0 x1 x2 x3 x4).1.1 (Sp.f1067 x0 x1 x2 x3 x4).1.2.1 (Sp.f1067 x0 x1 x2 x3 x4).1.2.2.1 (Sp.f1067 x0 x1 x2 x3 x4).1.2.2.2.1 (Sp.f1067 x0 x1 x2 x3 x4).1.2.2.2.2 x5) (chk (Sp.fits1068 x5) (chk (Sp.f1069_pre (Sp.f1067 x0 x1 x2 x3 x4).1.1 (Sp.f1067 x0 x1 x2 x3 x4).1.2.1 (Sp.f1067 x0 x1 x2 x3 x4).1.2.2.1 (Sp.f1067 x0 x1 x2 x3 x4).1.2.2.2.1 (Sp.f1067 x0 x1 x2 x3 x4).1.2.2.2.2 x5) (bif !(Sp.f1069 (Sp.f1067 x0 x1 x2 x3 x4).1.1 (Sp.f1067 x0 x1 x2 x3 x4).1.2.1 (Sp.f1067 x0 x1 x2 x3 x4).1.2.2.1 (Sp.f1067 x0 x1 x2 x3 x4).1.2.2.2.1 (Sp.f1067 x0 x1 x2 x3 x4).1.2.2.2.2 x5).1.1.toList == (Sp.f1066 (Sp.f1067 x0 x1 x2 x3 x4).1.1 (Sp.f1067 x0 x1 x2 x3 x4).1.2.1 (Sp.f1067 x0 x1 x2 x3 x4).1.2.2.1 (Sp.f1067 x0 x1 x2 x3 x4).1.2.2.2.1 (Sp.f1067 x0 x1 x2 x3 x4).1.2.2.2.2 x5).1.1.toList then some (Res.mk [XV.mk false [X.c (X0.dat Ty.bool false)]] []) else bif (Sp.f1069 (Sp.f1067 x0 x1 x2 x3 x4).1.1 (Sp.f1067 x0 x1 x2 x3 x4).1.2.1 (Sp.f1067 x0 x1 x2 x3 x4).1.2.2.1 (Sp.f1067 x0 x1 x2 x3 x4).1.2.2.2.1 (Sp.f1067 x0 x1 x2 x3 x4).1.2.2.2.2 x5).1.2 != (Sp.f1066 (Sp.f1067 x0 x1 x2 x3 x4).1.1 (Sp.f1067 x0 x1 x2 x3 x4).1.2.1 (Sp.f1067 x0 x1 x2 x3 x4).1.2.2.1 (Sp.f1067 x0 x1 x2 x3 x4).1.2.2.2.1 (Sp.f1067 x0 x1 x2 x3 x4).1.2.2.2.2 x5).1.2 then some (Res.mk [XV.mk false [X.c (X0.dat Ty.bool false)]] []) else chk (Sp.fits1068 x5) (bif !Sp.eqW Sp.eqTb x5 x5 then some (Res.mk [XV.mk false [X.c (X0.dat Ty.bool false)]] []) else some (Res.mk [XV.mk false [X.c (X0.dat Ty.bool true)]] [])))))) := by kernel_rfl
theorem f1059_form (x0 : ByteArray) (x1 : Int) (x2 : ByteArray) (x3 : ByteArray) (x4 : Int) (x5 : List (ByteArray × List (ByteArray × Int × Bool) × Int × List (ByteArray × List Int))) : (bif decide ((Sp.f1064 x0 x1 x2 x3 x4 (1048576 : Int)).1 < (0 : Int)) then some (Res.mk [XV.mk false [X.c (X0.dat Ty.bool true)]] []) else bif decide (Sp.szE Sp.szTb x5 (Sp.f1064 x0 x1 x2 x3 x4 (1048576 : Int)).1 < (0 : Int)) then some (Res.mk [XV.mk false [X.c (X0.dat Ty.bool true)]] []) else chk (Sp.fits1068 x5) (chk (Sp.f1066_pre (Sp.f1067 x0 x1 x2 x3 x4).1.1 (Sp.f1067 x0 x1 x2 x3 x4).1.2.1 (Sp.f1067 x0 x1 x2 x3 x4).1.2.2.1 (Sp.f1067 x0 x1 x2 x3 x4).1.2.2.2.1 (Sp.f1067 x0 x1 x2 x3 x4).1.2.2.2.2 x5) (chk (Sp.fits1068 x5) (chk (Sp.f1069_pre (Sp.f1067 x0 x1 x2 x3 x4).1.1 (Sp.f1067 x0 x1 x2 x3 x4).1.2.1 (Sp.f1067 x0 x1 x2 x3 x4).1.2.2.1 (Sp.f1067 x0 x1 x2 x3 x4).1.2.2.2.1 (Sp.f1067 x0 x1 x2 x3 x4).1.2.2.2.2 x5) (bif !(Sp.f1069 (Sp.f1067 x0 x1 x2 x3 x4).1.1 (Sp.f1067 x0 x1 x2 x3 x4).1.2.1 (Sp.f1067 x0 x1 x2 x3 x4).1.2.2.1 (Sp.f1067 x0 x1 x2 x3 x4).1.2.2.2.1 (Sp.f1067 x0 x1 x2 x3 x4).1.2.2.2.2 x5).1.1.toList == (Sp.f1066 (Sp.f1067 x0 x1 x2 x3 x4).1.1 (Sp.f1067 x0 x1 x2 x3 x4).1.2.1 (Sp.f1067 x0 x1 x2 x3 x4).1.2.2.1 (Sp.f1067 x0 x1 x2 x3 x4).1.2.2.2.1 (Sp.f1067 x0 x1 x2 x3 x4).1.2.2.2.2 x5).1.1.toList then some (Res.mk [XV.mk false [X.c (X0.dat Ty.bool false)]] []) else bif (Sp.f1069 (Sp.f1067 x0 x1 x2 x3 x4).1.1 (Sp.f1067 x0 x1 x2 x3 x4).1.2.1 (Sp.f1067 x0 x1 x2 x3 x4).1.2.2.1 (Sp.f1067 x0 x1 x2 x3 x4).1.2.2.2.1 (Sp.f1067 x0 x1 x2 x3 x4).1.2.2.2.2 x5).1.2 != (Sp.f1066 (Sp.f1067 x0 x1 x2 x3 x4).1.1 (Sp.f1067 x0 x1 x2 x3 x4).1.2.1 (Sp.f1067 x0 x1 x2 x3 x4).1.2.2.1 (Sp.f1067 x0 x1 x2 x3 x4).1.2.2.2.1 (Sp.f1067 x0 x1 x2 x3 x4).1.2.2.2.2 x5).1.2 then some (Res.mk [XV.mk false [X.c (X0.dat Ty.bool false)]] []) else chk (Sp.fits1068 x5) (bif !Sp.eqW Sp.eqTb x5 x5 then some (Res.mk [XV.mk false [X.c (X0.dat Ty.bool false)]] []) else some (Res.mk [XV.mk false [X.c (X0.dat Ty.bool true)]] []))))))) = chk (Sp.f1059_pre x0 x1 x2 x3 x4 x5) (some (f1059_g (Sp.f1059 x0 x1 x2 x3 x4 x5))) := by
  unfold Sp.f1059_pre Sp.f1059
  exact (cond_step f1059_g ((lift_plain (rfl))) ((cond_step f1059_g ((lift_plain (rfl))) ((chk_step ((chk_step ((chk_step ((chk_step ((cond_step f1059_g ((lift_plain (rfl))) ((cond_step f1059_g ((lift_plain (rfl))) ((chk_last ((cond_plain f1059_g (rfl) (rfl))))))))))))))))))))
theorem e1059_ok : Valid PP Γ e1059 := valid_auto ok (vcons e1064_ok (vcons e1065_ok (vcons e1067_ok (vcons e1068_ok (vcons e1066_ok (vcons e1069_ok (vcons e1070_ok vnil))))))) fun a => (f1059_raw a.1.1 a.1.2.1 a.1.2.2.1 a.1.2.2.2.1 a.1.2.2.2.2 a.2).trans (f1059_form a.1.1 a.1.2.1 a.1.2.2.1 a.1.2.2.2.1 a.1.2.2.2.2 a.2)

end Go.Proofs.GR.T

namespace Go.Proofs.GR.T
open Go Go.Proofs Go.Proofs.GR
theorem eqCo_self (x : VCo) : Sp.eqCo x x = true := by
  unfold Sp.eqCo Sp.f1155
  have h : eqB x.2.2 x.2.2 = true := by cases x.2.2 <;> rfl
  rw [beq_self_eq_true, h, show (x.2.1 != x.2.1) = false by simp]; rfl
theorem eqN_self (x : Int) : Sp.eqN x x = true := beq_self_eq_true x
theorem eqIx_self (x : VIx) : Sp.eqIx x x = true := by
  unfold Sp.eqIx Sp.f1156
  rw [beq_self_eq_true, eqW_self eqN_self]; rfl
theorem eqTb_self (x : VTb) : Sp.eqTb x x = true := by
  unfold Sp.eqTb Sp.f1094
  rw [beq_self_eq_true, eqW_self eqCo_self, eqW_self eqIx_self, show (x.2.2.1 != x.2.2.1) = false by simp]; rfl
def Sp.okTb1 (x : VTb) : Prop := x.1.size ≤ 9223372036854775807 ∧ (x.2.1.length ≤ 9223372036854775807 ∧ ∀ c ∈ x.2.1, c.1.size ≤ 9223372036854775807) ∧ (x.2.2.2.length ≤ 9223372036854775807 ∧ ∀ i ∈ x.2.2.2, i.1.size ≤ 9223372036854775807 ∧ i.2.length ≤ 9223372036854775807)
def Sp.okTbs (xs : List VTb) : Prop := xs.length ≤ 9223372036854775807 ∧ ∀ x ∈ xs, Sp.okTb1 x
def Sp.ctCo (x : VCo) : Nat := x.1.size
def Sp.ctIx (x : VIx) : Nat := x.1.size + x.2.length
def Sp.ctTb (x : VTb) : Nat := x.1.size + x.2.1.length + Sp.wtW Sp.ctCo x.2.1 + x.2.2.2.length + Sp.wtW Sp.ctIx x.2.2.2
theorem neg1 : ¬ (0 : Int) ≤ -1 := by decide
theorem szCo_wt {x : VCo} (h1 : x.1.size ≤ 9223372036854775807) (l : Int) (h0 : 0 ≤ l) (hl : l ≤ 1048576) (h : 0 ≤ Sp.szCo x l) : Sp.szCo x l + (Sp.ctCo x : Int) ≤ l := by
  unfold Sp.szCo Sp.f1147 at h ⊢
  rw [wrap64 (n := l - (x.1.size : Int)) (by omega) (by omega)] at h ⊢
  by_cases c1 : l - (x.1.size : Int) < 0
  · rw [decide_eq_true c1] at h; exact absurd h neg1
  · rw [decide_eq_false c1, cond_false]
    unfold Sp.ctCo
    show l - (x.1.size : Int) + _ ≤ l
    omega
theorem szIx_wt {x : VIx} (h1 : x.1.size ≤ 9223372036854775807) (h2 : x.2.length ≤ 9223372036854775807) (l : Int) (h0 : 0 ≤ l) (hl : l ≤ 1048576) (h : 0 ≤ Sp.szIx x l) : Sp.szIx x l + (Sp.ctIx x : Int) ≤ l := by
  unfold Sp.szIx Sp.f1148 at h ⊢
  rw [wrap64 (n := l - (x.1.size : Int)) (by omega) (by omega)] at h ⊢
  by_cases c1 : l - (x.1.size : Int) < 0
  · rw [decide_eq_true c1] at h; exact absurd h neg1
  · rw [decide_eq_false c1, cond_false] at h ⊢
    unfold Sp.f179 at h ⊢
    rw [wrap64 (n := l - (x.1.size : Int) - (x.2.length : Int)) (by omega) (by omega)] at h ⊢
    by_cases c2 : l - (x.1.size : Int) - (x.2.length : Int) < 0
    · rw [decide_eq_true c2] at h; exact absurd h neg1
    · rw [decide_eq_false c2]
      have c3 : decide (l - (x.1.size : Int) - (x.2.length : Int) < 0) = false := decide_eq_false c2
      unfold Sp.ctIx
      show (bif decide (l - (x.1.size : Int) - (x.2.length : Int) < 0) then ((-1 : Int), ()) else (l - (x.1.size : Int) - (x.2.length : Int), ())).1 + _ ≤ l
      rw [c3, cond_false, Int.natCast_add]
      show l - (x.1.size : Int) - (x.2.length : Int) + _ ≤ l
      omega
theorem szTb_wt {x : VTb} (hx : Sp.okTb1 x) (l : Int) (h0 : 0 ≤ l) (hl : l ≤ 1048576) (h : 0 ≤ Sp.szTb x l) : Sp.szTb x l + (Sp.ctTb x : Int) ≤ l := by
  obtain ⟨h1, ⟨h2, h2'⟩, h3, h3'⟩ := hx
  unfold Sp.szTb Sp.f1085 at h ⊢
  rw [wrap64 (n := l - (x.1.size : Int)) (by omega) (by omega)] at h ⊢
  by_cases c1 : l - (x.1.size : Int) < 0
  · rw [decide_eq_true c1] at h; exact absurd h neg1
  · rw [decide_eq_false c1, cond_false] at h ⊢
    by_cases c2 : Sp.szE Sp.szCo x.2.1 (l - (x.1.size : Int)) < 0
    · rw [decide_eq_true c2] at h; exact absurd h neg1
    · have w1 := szE_wt (f := Sp.szCo) (c := Sp.ctCo) (xs := x.2.1) (l := l - (x.1.size : Int)) h2 (fun y hy l a b d => szCo_wt (h2' y hy) l a b d) (by omega) (by omega) (by omega)
      rw [decide_eq_false c2, cond_false] at h ⊢
      by_cases c3 : Sp.szE Sp.szIx x.2.2.2 (Sp.szE Sp.szCo x.2.1 (l - (x.1.size : Int))) < 0
      · rw [decide_eq_true c3] at h; exact absurd h neg1
      · have w2 := szE_wt (f := Sp.szIx) (c := Sp.ctIx) (xs := x.2.2.2) (l := Sp.szE Sp.szCo x.2.1 (l - (x.1.size : Int))) h3 (fun y hy l a b d => szIx_wt (h3' y hy).1 (h3' y hy).2 l a b d) (by omega) (by omega) (by omega)
        rw [decide_eq_false c3, cond_false]
        show Sp.szE Sp.szIx x.2.2.2 (Sp.szE Sp.szCo x.2.1 (l - (x.1.size : Int))) + ((x.1.size + x.2.1.length + Sp.wtW Sp.ctCo x.2.1 + x.2.2.2.length + Sp.wtW Sp.ctIx x.2.2.2 : Nat) : Int) ≤ l
        omega
theorem wtW_one {α : Type} {w : α → Nat} : ∀ {xs : List α} {x : α}, x ∈ xs → w x ≤ Sp.wtW w xs
  | y :: r, x, h => by
    rw [Sp.wtW]
    rcases List.mem_cons.1 h with rfl | h
    · omega
    · have := wtW_one (w := w) h; omega
/-- What tables have to be for a copy. -/
def Sp.smallTbs (xs : List VTb) : Prop := xs.length ≤ 1048576 ∧ ∀ x ∈ xs, Sp.ctTb x ≤ 1048576
theorem smallTb_of {xs : List VTb} (h : Sp.okTbs xs) {l : Int} (h0 : 0 ≤ l) (hl : l ≤ 1048576) (hs : ¬ Sp.szE Sp.szTb xs l < 0) : Sp.smallTbs xs := by
  have w := szE_wt (f := Sp.szTb) (c := Sp.ctTb) (xs := xs) (l := l) h.1 (fun x hx l a b c => szTb_wt (h.2 x hx) l a b c) h0 hl (by omega)
  refine ⟨by omega, fun x hx => ?_⟩
  have := wtW_one (w := Sp.ctTb) hx
  omega
theorem yes2_both {a b : Bool} (ha : a = true) (hb : b = true) : yes2 a b = true := by rw [ha, hb]; rfl
theorem fits_of {xs : List VTb} (h : Sp.smallTbs xs) : Sp.fits1068 xs = true := by
  refine yes2_both (fits32_mk (by have := h.1; omega)) (allW_mem.2 fun x hx => ?_)
  have h2 := h.2 x hx
  unfold Sp.ctTb at h2
  show (Sp.fits32 x.2.1 && Sp.fits1114 x.2.2.2) = true
  have a : Sp.fits32 x.2.1 = true := fits32_mk (by omega)
  have b : Sp.fits1114 x.2.2.2 = true := by
    refine yes2_both (fits32_mk (by omega)) (allW_mem.2 fun y hy => ?_)
    have h3 := wtW_one (w := Sp.ctIx) hy
    unfold Sp.ctIx at h3 h2
    exact fits32_mk (by omega)
  rw [a, b]; rfl
theorem fine_of {xs : List VTb} (h : Sp.okTbs xs) : Sp.fineTs xs = true := by
  refine allW_mem.2 fun x hx => ?_
  obtain ⟨h1, ⟨_, h2⟩, _, h3⟩ := h.2 x hx
  exact yes2_both (Nat.ble_eq_true_of_le h1) (yes2_both (allW_mem.2 fun c hc => Nat.ble_eq_true_of_le (h2 c hc)) (allW_mem.2 fun c hc => Nat.ble_eq_true_of_le (h3 c hc).1))
theorem cat_rises : ∀ (xs pre : List VTb), Sp.allP Sp.catP pre xs = true → Sp.risesW Sp.nameT xs = true
  | [], _, _ => rfl
  | [_], _, _ => rfl
  | x :: y :: r, pre, h => by
    rw [Sp.allP] at h
    cases hx : Sp.catP pre x with
    | false => rw [hx] at h; cases h
    | true =>
      rw [hx, Bool.not_true, cond_false] at h
      rw [Sp.risesW, cat_rises (y :: r) (pre ++ [x]) h]
      rw [Sp.allP] at h
      cases hy : Sp.catP (pre ++ [x]) y with
      | false => rw [hy] at h; cases h
      | true =>
        unfold Sp.catP at hy
        cases ho : Sp.okT y with
        | false => rw [ho] at hy; cases hy
        | true =>
          rw [ho, Bool.not_true, cond_false, decide_eq_true (show 0 < (pre ++ [x]).length by simp), cond_true] at hy
          have e : Sp.prevT (pre ++ [x]) = x.1 := by
            unfold Sp.prevT
            rw [List.length_append, List.length_singleton, Nat.add_sub_cancel, List.getD, List.getElem?_append_right (Nat.le_refl _), Nat.sub_self]
            rfl
          rw [e] at hy
          show (bif Sp.lessS x.1 y.1 then true else false) = true
          rw [hy]; rfl
theorem cat_of {xs : List VTb} (h : Sp.catOK xs = true) : xs.length ≤ 6 ∧ Sp.risesW Sp.nameT xs = true := by
  unfold Sp.catOK at h
  by_cases h4 : (xs.length : Int) > 4096
  · rw [decide_eq_true h4] at h; cases h
  by_cases h6 : (xs.length : Int) > 6
  · rw [decide_eq_false h4, decide_eq_true h6] at h; cases h
  rw [decide_eq_false h4, decide_eq_false h6, cond_false, cond_false] at h
  exact ⟨by omega, cat_rises xs [] h⟩
theorem rist_of {xs : List VTb} (h : Sp.catOK xs = true) : Sp.risT xs = true := by
  have := cat_of h
  exact yes2_both (fits32_mk (by omega)) this.2
theorem seek_idx {xs : List VTb} (t : ByteArray) (h : Sp.catOK xs = true) : Sp.idx (Sp.nmTb t) xs 0 = bif Sp.hitT xs t then ((Sp.lowT xs t : Nat) : Int) else -1 := by
  have := idx_low (key := Sp.nameT) (t := t) (xs := xs) 0 (cat_of h).2
  refine this.trans ?_
  have e0 : Sp.lowW (fun x => Sp.lessS (Sp.nameT x) t) xs = Sp.lowT xs t := rfl
  rw [e0, Int.zero_add]
  unfold Sp.hitT
  by_cases hl : Sp.lowT xs t < xs.length
  · rw [decide_eq_true hl, cond_true, List.getElem?_eq_getElem hl]
    have e : Sp.tAt xs (Sp.lowT xs t : Nat) = xs[Sp.lowT xs t] := getD_nat xs _ _ hl
    rw [e]
    rfl
  · rw [decide_eq_false hl, cond_false, List.getElem?_eq_none (by omega)]
theorem hit_lt {xs : List VTb} {t : ByteArray} (h : Sp.hitT xs t = true) : Sp.lowT xs t < xs.length := by
  unfold Sp.hitT at h
  by_cases hl : Sp.lowT xs t < xs.length
  · exact hl
  · rw [decide_eq_false hl] at h; cases h
theorem guardI {i : Nat} {n : Nat} (h : i < n) : (decide ((0 : Int) ≤ (i : Int)) && decide ((i : Int) < (n : Int))) = true := guard2 h
end Go.Proofs.GR.T

namespace Go.Proofs.GR.T
open Go Go.Proofs Go.Proofs.GR
theorem tAt_mem {xs : List VTb} {i : Nat} (h : i < xs.length) : Sp.tAt xs (i : Nat) ∈ xs := by
  have : Sp.tAt xs (i : Nat) = xs[i] := getD_nat xs i _ h
  rw [this]; exact List.getElem_mem h
end Go.Proofs.GR.T

namespace Go.Proofs.GR.T
open Go Go.Proofs Go.Proofs.GR
theorem flat_len {f : Int → List Int} (h : ∀ b, (f b).length = 2) : ∀ l : List Int, (Sp.flatW f l).length = 2 * l.length
  | [] => rfl
  | b :: r => by rw [Sp.flatW, List.length_append, h, flat_len h r, List.length_cons]; omega
theorem hexS_size (t : ByteArray) : (Sp.hexS t).size = 2 * t.size := by
  unfold Sp.hexS
  rw [bytesStr_size, flat_len (fun _ => rfl), strBytes_len]
theorem f79_iff {i lo hi : Int} (h : (Sp.f79 i lo hi).1 = true) : lo ≤ i ∧ i ≤ hi := by
  have h : (bif decide (i ≥ lo) then (decide (i ≤ hi), ()) else (false, ())).1 = true := h
  by_cases h0 : i ≥ lo
  · rw [decide_eq_true h0, cond_true] at h
    exact ⟨h0, of_decide_eq_true h⟩
  · rw [decide_eq_false h0, cond_false] at h; cases h
def Sp.plT (x1 : Int) (x2 x3 : ByteArray) (x4 : Int) (n : Nat) : Bool := bif (Sp.f79 x1 (-1 : Int) (IntKind.i64.wrap ((n : Int) - (1 : Int)))).1 then (bif decide ((x2.size : Int) ≤ (200 : Int)) then (bif decide ((x3.size : Int) ≤ (200 : Int)) then (Sp.f79 x4 (0 : Int) (1000 : Int)).1 else false) else false) else false
theorem fst_cond {α β : Type} (c : Bool) (p q : α × β) : (bif c then p else q).1 = bif c then p.1 else q.1 := by cases c <;> rfl
theorem planS (x0 : ByteArray) (x1 : Int) (x2 x3 : ByteArray) (x4 : Int) {x5 : List VTb} (hc : Sp.catOK x5 = true) : (Sp.f1086 x0 x1 x2 x3 x4 x5).1 = bif Sp.hitT x5 x0 then Sp.plT x1 x2 x3 x4 (Sp.tAt x5 (Sp.lowT x5 x0 : Nat)).2.2.2.length else false := by
  unfold Sp.f1086
  rw [seek_idx x0 hc]
  cases Sp.hitT x5 x0 with
  | false => rfl
  | true =>
    rw [cond_true, cond_true, decide_eq_true (show ((Sp.lowT x5 x0 : Nat) : Int) ≥ 0 by omega), cond_true, fst_cond, fst_cond, fst_cond]
    rfl
theorem planI (x0 : ByteArray) (x1 : Int) (x2 x3 : ByteArray) (x4 : Int) (x5 : List VTb) : (Sp.f1091 x0 x1 x2 x3 x4 x5).1 = bif Sp.hitT x5 x0 then Sp.plT x1 x2 x3 x4 (Sp.tAt x5 (Sp.lowT x5 x0 : Nat)).2.2.2.length else false := by
  unfold Sp.f1091
  show (bif Sp.hitT x5 x0 then (bif (Sp.f79 x1 (-1 : Int) (IntKind.i64.wrap (((Sp.tAt x5 (Sp.lowT x5 x0 : Nat)).2.2.2.length : Int) - (1 : Int)))).1 then (bif decide ((x2.size : Int) ≤ (200 : Int)) then (bif decide ((x3.size : Int) ≤ (200 : Int)) then ((Sp.f79 x4 (0 : Int) (1000 : Int)).1, ()) else (false, ())) else (false, ())) else (false, ())) else (false, ())).1 = _
  rw [fst_cond, fst_cond, fst_cond, fst_cond]
  rfl
abbrev kAll : ByteArray := ByteArray.mk #[(32 : UInt8), (97 : UInt8), (108 : UInt8), (108 : UInt8)]
abbrev kSp : ByteArray := ByteArray.mk #[(32 : UInt8)]
abbrev kKey : ByteArray := ByteArray.mk #[(107 : UInt8), (101 : UInt8), (121 : UInt8)]
abbrev kFrom : ByteArray := ByteArray.mk #[(32 : UInt8), (102 : UInt8), (114 : UInt8), (111 : UInt8), (109 : UInt8), (32 : UInt8)]
abbrev kKeyFrom : ByteArray := ByteArray.mk #[(32 : UInt8), (107 : UInt8), (101 : UInt8), (121 : UInt8), (32 : UInt8), (102 : UInt8), (114 : UInt8), (111 : UInt8), (109 : UInt8), (32 : UInt8)]
abbrev kBelow : ByteArray := ByteArray.mk #[(32 : UInt8), (98 : UInt8), (101 : UInt8), (108 : UInt8), (111 : UInt8), (119 : UInt8), (32 : UInt8)]
abbrev kIx : ByteArray := ByteArray.mk #[(105 : UInt8), (110 : UInt8), (100 : UInt8), (101 : UInt8), (120 : UInt8), (32 : UInt8)]
abbrev kSpIx : ByteArray := ByteArray.mk #[(32 : UInt8), (105 : UInt8), (110 : UInt8), (100 : UInt8), (101 : UInt8), (120 : UInt8), (32 : UInt8)]
theorem kKey_eq : kSp ++ (kKey ++ kFrom) = kKeyFrom := by decide +kernel
theorem kIx_eq : kSp ++ kIx = kSpIx := by decide +kernel
theorem s10 : kKeyFrom.size = 10 := rfl
theorem s7 : kBelow.size = 7 := rfl
theorem s7' : kSpIx.size = 7 := rfl
theorem s6 : kFrom.size = 6 := rfl
theorem s6' : kIx.size = 6 := rfl
theorem s1 : kSp.size = 1 := rfl
theorem s3 : kKey.size = 3 := rfl
def Sp.ixName (x : VTb) (i : Int) : ByteArray := (x.2.2.2.getD i.toNat (ByteArray.mk #[], [])).1
def Sp.plText (x0 : ByteArray) (x1 : Int) (x2 x3 : ByteArray) (x4 : Int) (x : VTb) : ByteArray :=
  bif x4 == (0 : Int) then x0 ++ kAll else bif decide (x1 < (0 : Int)) then x0 ++ kKeyFrom ++ Sp.hexS x2 ++ kBelow ++ Sp.hexS x3 else x0 ++ kSpIx ++ Sp.ixName x x1 ++ kFrom ++ Sp.hexS x2 ++ kBelow ++ Sp.hexS x3
def Sp.plan (x0 : ByteArray) (x1 : Int) (x2 x3 : ByteArray) (x4 : Int) (x5 : List VTb) : ByteArray × Int :=
  bif decide ((x5.length : Int) > (4096 : Int)) then (ByteArray.mk #[], 2) else bif !Sp.catOK x5 then (ByteArray.mk #[], 1) else bif !(bif Sp.hitT x5 x0 then Sp.plT x1 x2 x3 x4 (Sp.tAt x5 (Sp.lowT x5 x0 : Nat)).2.2.2.length else false) then (ByteArray.mk #[], 1) else (Sp.plText x0 x1 x2 x3 x4 (Sp.tAt x5 (Sp.lowT x5 x0 : Nat)), 0)
theorem spec_plan (x0 : ByteArray) (x1 : Int) (x2 x3 : ByteArray) (x4 : Int) (x5 : List VTb) : (Sp.f1066 x0 x1 x2 x3 x4 x5).1 = Sp.plan x0 x1 x2 x3 x4 x5 := by
  unfold Sp.f1066 Sp.plan
  cases decide ((x5.length : Int) > (4096 : Int)) with
  | true => rfl
  | false =>
  cases hc : Sp.catOK x5 with
  | false => rfl
  | true =>
    rw [planS x0 x1 x2 x3 x4 hc, seek_idx x0 hc, cond_false, cond_false, Bool.not_true, cond_false, cond_false]
    cases Sp.hitT x5 x0 with
    | false => rfl
    | true =>
      rw [cond_true, cond_true]
      cases Sp.plT x1 x2 x3 x4 (Sp.tAt x5 (Sp.lowT x5 x0 : Nat)).2.2.2.length with
      | false => rfl
      | true =>
        unfold Sp.plText
        cases x4 == (0 : Int) <;> cases decide (x1 < (0 : Int)) <;> rfl
theorem ge_not (x1 : Int) : decide (x1 ≥ (0 : Int)) = !decide (x1 < (0 : Int)) := by
  by_cases h : x1 < 0
  · rw [decide_eq_true h, decide_eq_false (by omega)]; rfl
  · rw [decide_eq_false h, decide_eq_true (by omega)]; rfl
theorem impl_plan (x0 : ByteArray) (x1 : Int) (x2 x3 : ByteArray) (x4 : Int) (x5 : List VTb) : (Sp.f1069 x0 x1 x2 x3 x4 x5).1 = Sp.plan x0 x1 x2 x3 x4 x5 := by
  unfold Sp.f1069 Sp.plan
  cases decide ((x5.length : Int) > (4096 : Int)) with
  | true => rfl
  | false =>
  cases hc : Sp.catOK x5 with
  | false => rfl
  | true =>
    rw [planI, cond_false, cond_false, Bool.not_true, cond_false, cond_false]
    cases Sp.hitT x5 x0 with
    | false => rfl
    | true =>
      rw [cond_true]
      cases Sp.plT x1 x2 x3 x4 (Sp.tAt x5 (Sp.lowT x5 x0 : Nat)).2.2.2.length with
      | false => rfl
      | true =>
        rw [ge_not, hex_eq, hex_eq]
        unfold Sp.plText
        cases x4 == (0 : Int) with
        | true => rfl
        | false =>
          cases decide (x1 < (0 : Int)) with
          | true =>
            show (x0 ++ kSp ++ kKey ++ kFrom ++ Sp.hexS x2 ++ kBelow ++ Sp.hexS x3, (0 : Int)) = (x0 ++ kKeyFrom ++ Sp.hexS x2 ++ kBelow ++ Sp.hexS x3, (0 : Int))
            rw [show x0 ++ kSp ++ kKey ++ kFrom = x0 ++ kKeyFrom by rw [ByteArray.append_assoc, ByteArray.append_assoc, kKey_eq]]
          | false =>
            show (x0 ++ kSp ++ (kIx ++ Sp.ixName (Sp.tAt x5 (Sp.lowT x5 x0 : Nat)) x1) ++ kFrom ++ Sp.hexS x2 ++ kBelow ++ Sp.hexS x3, (0 : Int)) = (x0 ++ kSpIx ++ Sp.ixName (Sp.tAt x5 (Sp.lowT x5 x0 : Nat)) x1 ++ kFrom ++ Sp.hexS x2 ++ kBelow ++ Sp.hexS x3, (0 : Int))
            rw [show x0 ++ kSp ++ (kIx ++ Sp.ixName (Sp.tAt x5 (Sp.lowT x5 x0 : Nat)) x1) = x0 ++ kSpIx ++ Sp.ixName (Sp.tAt x5 (Sp.lowT x5 x0 : Nat)) x1 by rw [← ByteArray.append_assoc, ByteArray.append_assoc (a := x0), kIx_eq]]
theorem ixName_size {x : VTb} (h : Sp.ctTb x ≤ 1048576) (i : Int) : (Sp.ixName x i).size ≤ 1048576 := by
  unfold Sp.ixName
  by_cases hi : i.toNat < x.2.2.2.length
  · rw [List.getD, List.getElem?_eq_getElem hi, Option.getD_some]
    have h2 := wtW_one (w := Sp.ctIx) (List.getElem_mem hi)
    unfold Sp.ctTb at h
    unfold Sp.ctIx at h2 h
    omega
  · rw [List.getD, List.getElem?_eq_none (by omega), Option.getD_none]
    exact Nat.zero_le _
theorem shortB_of {t : ByteArray} (h : t.size ≤ 1048576) : Sp.short t = true := Nat.ble_eq_true_of_le (by omega)
theorem plan_pres {x0 : ByteArray} {x1 : Int} {x2 x3 : ByteArray} {x4 : Int} {x5 : List VTb} (h0 : x0.size ≤ 1048576) (h2 : x2.size ≤ 1048576) (h3 : x3.size ≤ 1048576) (h5 : Sp.okTbs x5) (hs : Sp.smallTbs x5) : Sp.f1066_pre x0 x1 x2 x3 x4 x5 = true ∧ Sp.f1069_pre x0 x1 x2 x3 x4 x5 = true := by
  have p2 := shortB_of h2
  have p3 := shortB_of h3
  unfold Sp.f1066_pre Sp.f1069_pre
  rw [fine_of h5]
  cases decide ((x5.length : Int) > (4096 : Int)) with
  | true => exact ⟨rfl, rfl⟩
  | false =>
  cases hc : Sp.catOK x5 with
  | false => exact ⟨rfl, rfl⟩
  | true =>
    have hr : Sp.f1092_pre x5 x0 = true := rist_of hc
    have q1 : Sp.f1086_pre x0 x1 x2 x3 x4 x5 = true := by
      unfold Sp.f1086_pre
      rw [seek_idx x0 hc]
      cases hh : Sp.hitT x5 x0 with
      | false => rfl
      | true =>
        rw [cond_true, decide_eq_true (show ((Sp.lowT x5 x0 : Nat) : Int) ≥ 0 by omega), cond_true, Bool.true_and]
        exact decide_eq_true (by have := hit_lt hh; omega)
    have q2 : Sp.f1091_pre x0 x1 x2 x3 x4 x5 = true := by
      unfold Sp.f1091_pre
      rw [hr, Bool.true_and]
      show (bif Sp.hitT x5 x0 then decide ((0 : Int) ≤ (Sp.lowT x5 x0 : Nat)) && decide (((Sp.lowT x5 x0 : Nat) : Int) < (x5.length : Int)) else true) = true
      cases hh : Sp.hitT x5 x0 with
      | false => rfl
      | true => rw [cond_true, guardI (hit_lt hh)]
    rw [q1, q2, planI, planS x0 x1 x2 x3 x4 hc, seek_idx x0 hc, hr, hex_eq, hex_eq, cond_false, cond_false, Bool.not_true, cond_false, cond_false, Bool.true_and, Bool.true_and, Bool.true_and, Bool.true_and, ge_not x1]
    cases hh : Sp.hitT x5 x0 with
    | false => exact ⟨rfl, rfl⟩
    | true =>
      rw [cond_true, cond_true]
      cases hp : Sp.plT x1 x2 x3 x4 (Sp.tAt x5 (Sp.lowT x5 x0 : Nat)).2.2.2.length with
      | false => exact ⟨rfl, rfl⟩
      | true =>
        have hl := hit_lt hh
        have hs2 := hs.2 _ (tAt_mem hl)
        have hn := ixName_size hs2 x1
        have hw : -1 ≤ x1 ∧ x1 ≤ ((Sp.tAt x5 (Sp.lowT x5 x0 : Nat)).2.2.2.length : Int) - 1 := by
          unfold Sp.plT at hp
          have : (Sp.f79 x1 (-1 : Int) (IntKind.i64.wrap (((Sp.tAt x5 (Sp.lowT x5 x0 : Nat)).2.2.2.length : Int) - (1 : Int)))).1 = true := by
            cases h : (Sp.f79 x1 (-1 : Int) (IntKind.i64.wrap (((Sp.tAt x5 (Sp.lowT x5 x0 : Nat)).2.2.2.length : Int) - (1 : Int)))).1 with
            | true => rfl
            | false => rw [h] at hp; cases hp
          have := f79_iff this
          unfold Sp.ctTb at hs2
          rw [wrap64 (by omega) (by omega)] at this
          exact this
        cases x4 == (0 : Int) with
        | true => exact ⟨decide_eq_true (by omega), decide_eq_true (by omega)⟩
        | false =>
          by_cases h1 : x1 < 0
          · rw [decide_eq_true h1, p2, p3]
            refine ⟨?_, ?_⟩
            · show (decide (x0.size + 10 ≤ 9223372036854775807) && (true && (decide ((x0 ++ kKeyFrom).size + (Sp.hexS x2).size ≤ 9223372036854775807) && (decide ((x0 ++ kKeyFrom ++ Sp.hexS x2).size + 7 ≤ 9223372036854775807) && (true && decide ((x0 ++ kKeyFrom ++ Sp.hexS x2 ++ kBelow).size + (Sp.hexS x3).size ≤ 9223372036854775807)))))) = true
              simp only [Bool.and_eq_true, decide_eq_true_eq, ByteArray.size_append, hexS_size, s10, s7, true_and]
              omega
            · show (decide (x0.size + 1 ≤ 9223372036854775807) && (decide ((x0 ++ kSp).size + 3 ≤ 9223372036854775807) && (decide ((x0 ++ kSp ++ kKey).size + 6 ≤ 9223372036854775807) && (true && (decide ((x0 ++ kSp ++ kKey ++ kFrom).size + (Sp.hexS x2).size ≤ 9223372036854775807) && (decide ((x0 ++ kSp ++ kKey ++ kFrom ++ Sp.hexS x2).size + 7 ≤ 9223372036854775807) && (true && decide ((x0 ++ kSp ++ kKey ++ kFrom ++ Sp.hexS x2 ++ kBelow).size + (Sp.hexS x3).size ≤ 9223372036854775807)))))))) = true
              simp only [Bool.and_eq_true, decide_eq_true_eq, ByteArray.size_append, hexS_size, s1, s3, s6, s7, true_and]
              omega
          · rw [decide_eq_false h1, p2, p3]
            refine ⟨?_, ?_⟩
            · show (decide ((0 : Int) ≤ (Sp.lowT x5 x0 : Nat)) && decide (((Sp.lowT x5 x0 : Nat) : Int) < (x5.length : Int)) && (decide (x0.size + 7 ≤ 9223372036854775807) && (true && decide (x1 < ((Sp.tAt x5 (Sp.lowT x5 x0 : Nat)).2.2.2.length : Int)) && (decide ((x0 ++ kSpIx).size + (Sp.ixName (Sp.tAt x5 (Sp.lowT x5 x0 : Nat)) x1).size ≤ 9223372036854775807) && (decide ((x0 ++ kSpIx ++ Sp.ixName (Sp.tAt x5 (Sp.lowT x5 x0 : Nat)) x1).size + 6 ≤ 9223372036854775807) && (true && (decide ((x0 ++ kSpIx ++ Sp.ixName (Sp.tAt x5 (Sp.lowT x5 x0 : Nat)) x1 ++ kFrom).size + (Sp.hexS x2).size ≤ 9223372036854775807) && (decide ((x0 ++ kSpIx ++ Sp.ixName (Sp.tAt x5 (Sp.lowT x5 x0 : Nat)) x1 ++ kFrom ++ Sp.hexS x2).size + 7 ≤ 9223372036854775807) && (true && decide ((x0 ++ kSpIx ++ Sp.ixName (Sp.tAt x5 (Sp.lowT x5 x0 : Nat)) x1 ++ kFrom ++ Sp.hexS x2 ++ kBelow).size + (Sp.hexS x3).size ≤ 9223372036854775807)))))))))) = true
              simp only [Bool.and_eq_true, decide_eq_true_eq, ByteArray.size_append, hexS_size, s7', s6, s7, true_and]
              omega
            · show (decide ((0 : Int) ≤ (Sp.lowT x5 x0 : Nat)) && decide (((Sp.lowT x5 x0 : Nat) : Int) < (x5.length : Int)) && (true && decide (x1 < ((Sp.tAt x5 (Sp.lowT x5 x0 : Nat)).2.2.2.length : Int)) && (decide (6 + (Sp.ixName (Sp.tAt x5 (Sp.lowT x5 x0 : Nat)) x1).size ≤ 9223372036854775807) && (decide (x0.size + 1 ≤ 9223372036854775807) && (decide ((x0 ++ kSp).size + (kIx ++ Sp.ixName (Sp.tAt x5 (Sp.lowT x5 x0 : Nat)) x1).size ≤ 9223372036854775807) && (decide ((x0 ++ kSp ++ (kIx ++ Sp.ixName (Sp.tAt x5 (Sp.lowT x5 x0 : Nat)) x1)).size + 6 ≤ 9223372036854775807) && (true && (decide ((x0 ++ kSp ++ (kIx ++ Sp.ixName (Sp.tAt x5 (Sp.lowT x5 x0 : Nat)) x1) ++ kFrom).size + (Sp.hexS x2).size ≤ 9223372036854775807) && (decide ((x0 ++ kSp ++ (kIx ++ Sp.ixName (Sp.tAt x5 (Sp.lowT x5 x0 : Nat)) x1) ++ kFrom ++ Sp.hexS x2).size + 7 ≤ 9223372036854775807) && (true && decide ((x0 ++ kSp ++ (kIx ++ Sp.ixName (Sp.tAt x5 (Sp.lowT x5 x0 : Nat)) x1) ++ kFrom ++ Sp.hexS x2 ++ kBelow).size + (Sp.hexS x3).size ≤ 9223372036854775807))))))))))) = true
              simp only [Bool.and_eq_true, decide_eq_true_eq, ByteArray.size_append, hexS_size, s1, s6', s6, s7, true_and]
              omega
theorem law1059_pre (x0 : ByteArray) (x1 : Int) (x2 x3 : ByteArray) (x4 : Int) (x5 : List VTb) (h0 : x0.size ≤ 9223372036854775807) (h2 : x2.size ≤ 9223372036854775807) (h3 : x3.size ≤ 9223372036854775807) (h5 : Sp.okTbs x5) : Sp.f1059_pre x0 x1 x2 x3 x4 x5 = true := by
  unfold Sp.f1059_pre
  have e : (Sp.f1064 x0 x1 x2 x3 x4 (1048576 : Int)).1 < 0 ∨ (x0.size ≤ 1048576 ∧ x2.size ≤ 1048576 ∧ x3.size ≤ 1048576 ∧ (Sp.f1064 x0 x1 x2 x3 x4 (1048576 : Int)).1 ≤ 1048576) := by
    unfold Sp.f1064
    rw [wrap64 (n := 1048576 - (x0.size : Int)) (by omega) (by omega)]
    by_cases k1 : 1048576 - (x0.size : Int) < 0
    · rw [decide_eq_true k1]; exact .inl (show (-1 : Int) < 0 by decide)
    rw [decide_eq_false k1, cond_false, wrap64 (n := 1048576 - (x0.size : Int) - (x2.size : Int)) (by omega) (by omega)]
    by_cases k2 : 1048576 - (x0.size : Int) - (x2.size : Int) < 0
    · rw [decide_eq_true k2]; exact .inl (show (-1 : Int) < 0 by decide)
    rw [decide_eq_false k2, cond_false, wrap64 (n := 1048576 - (x0.size : Int) - (x2.size : Int) - (x3.size : Int)) (by omega) (by omega)]
    by_cases k3 : 1048576 - (x0.size : Int) - (x2.size : Int) - (x3.size : Int) < 0
    · rw [decide_eq_true k3]; exact .inl (show (-1 : Int) < 0 by decide)
    rw [decide_eq_false k3, cond_false]
    exact .inr ⟨by omega, by omega, by omega, show 1048576 - (x0.size : Int) - (x2.size : Int) - (x3.size : Int) ≤ 1048576 by omega⟩
  by_cases c1 : (Sp.f1064 x0 x1 x2 x3 x4 (1048576 : Int)).1 < 0
  · rw [decide_eq_true c1]; rfl
  obtain ⟨b0, b2, b3, b4⟩ := e.resolve_left c1
  by_cases c2 : Sp.szE Sp.szTb x5 (Sp.f1064 x0 x1 x2 x3 x4 (1048576 : Int)).1 < 0
  · rw [decide_eq_false c1, decide_eq_true c2]; rfl
  have hs := smallTb_of h5 (l := (Sp.f1064 x0 x1 x2 x3 x4 (1048576 : Int)).1) (by omega) b4 c2
  have p := plan_pres (x1 := x1) (x4 := x4) b0 b2 b3 h5 hs
  have f := fits_of hs
  have hPl : (Sp.f1067 x0 x1 x2 x3 x4).1 = (x0, x1, x2, x3, x4) := rfl
  rw [decide_eq_false c1, decide_eq_false c2, cond_false, cond_false, hPl, f]
  show (true && (Sp.f1066_pre x0 x1 x2 x3 x4 x5 && (true && (Sp.f1069_pre x0 x1 x2 x3 x4 x5 && _)))) = true
  rw [p.1, p.2]
  simp
theorem law1059 (x0 : ByteArray) (x1 : Int) (x2 x3 : ByteArray) (x4 : Int) (x5 : List VTb) : (Sp.f1059 x0 x1 x2 x3 x4 x5).1 = true := by
  unfold Sp.f1059
  have hPl : (Sp.f1067 x0 x1 x2 x3 x4).1 = (x0, x1, x2, x3, x4) := rfl
  rw [hPl]
  show (bif decide ((Sp.f1064 x0 x1 x2 x3 x4 (1048576 : Int)).1 < (0 : Int)) then (true, ()) else (bif decide (Sp.szE Sp.szTb x5 (Sp.f1064 x0 x1 x2 x3 x4 (1048576 : Int)).1 < (0 : Int)) then (true, ()) else (bif !((Sp.f1069 x0 x1 x2 x3 x4 x5).1.1.toList == (Sp.f1066 x0 x1 x2 x3 x4 x5).1.1.toList) then (false, ()) else (bif (Sp.f1069 x0 x1 x2 x3 x4 x5).1.2 != (Sp.f1066 x0 x1 x2 x3 x4 x5).1.2 then (false, ()) else (bif !Sp.eqW Sp.eqTb x5 x5 then (false, ()) else (true, ())))))).1 = true
  rw [impl_plan, spec_plan, beq_self_eq_true, eqW_self eqTb_self, show ((Sp.plan x0 x1 x2 x3 x4 x5).2 != (Sp.plan x0 x1 x2 x3 x4 x5).2) = false by simp]
  cases decide ((Sp.f1064 x0 x1 x2 x3 x4 (1048576 : Int)).1 < (0 : Int)) <;> cases decide (Sp.szE Sp.szTb x5 (Sp.f1064 x0 x1 x2 x3 x4 (1048576 : Int)).1 < (0 : Int)) <;> rfl
end Go.Proofs.GR.T

