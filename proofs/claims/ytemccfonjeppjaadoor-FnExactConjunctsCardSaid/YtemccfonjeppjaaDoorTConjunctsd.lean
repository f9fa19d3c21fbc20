/-
  No statement is proved here: what the functions of the law answer, told as plain functions, and that the law's answer is always true.
  No condition.
-/
import Derived.Test.YtemccfonjeppjaaDoorTConjunctsc
set_option maxRecDepth 100000
set_option maxHeartbeats 100000000
namespace Go.Proofs.GR.T
open Go Go.Proofs Go.Proofs.GR
def Sp.isAnd (a : VA) : Bool := bif a.1 == 16 then a.2.2.1.toList == (ByteArray.mk #[97, 110, 100]).toList else false
mutual
def Sp.conjT : RT → List RT
  | .mk a ks => bif Sp.isAnd a then Sp.conj2 ks else [.mk a ks]
def Sp.conj2 : List RT → List RT
  | r :: s :: _ => Sp.conjT r ++ Sp.conjT s
  | _ => []
end
mutual
def Sp.andT : RT → Bool
  | .mk a ks => bif Sp.isAnd a then Sp.and2 ks else true
def Sp.and2 : List RT → Bool
  | r :: s :: _ => Sp.andT r && Sp.andT s
  | _ => false
end
noncomputable def e1017 : Ent := { f := n1017, ins := [Sh.agg aT], outs := [Sh.one (C0.row tT)], upd := [], pre := fun a => Sp.fitTs a.2.2.2.2.2.2.2 && (Sp.cnt32 a.2.2.2.2.2.2.2 && Sp.andT (Sp.mkT a)), spec := fun a => Sp.conjT (Sp.mkT a), wrt := fun _ => () }
noncomputable def e1017n (N : Nat) : Ent := e1017.below (fun a => Sp.rsz1 a.2.2.2.2.2.2.2) N
theorem f1017_raw (N : Nat) (x0 : Int) (x1 : Int) (x2 : ByteArray) (x3 : ByteArray) (x4 : Int) (x5 : Int) (x6 : ByteArray) (x7 : List (Rose (Int × Int × ByteArray × ByteArray × Int × Int × ByteArray))) : abody Γ (orc [e1017n N, e1022]) 0 21 [XV.mk true [X.c (X0.dat (Ty.int IntKind.i64) x0), X.c (X0.dat (Ty.int IntKind.i64) x1), X.c (X0.dat Ty.str x2), X.c (X0.dat Ty.str x3), X.c (X0.dat (Ty.int IntKind.i64) x4), X.c (X0.dat (Ty.int IntKind.i64) x5), X.c (X0.dat Ty.str x6), X.c (X0.dat ((Ty.int IntKind.i64).pair ((Ty.int IntKind.i64).pair (Ty.str.pair (Ty.str.pair ((Ty.int IntKind.i64).pair ((Ty.int IntKind.i64).pair Ty.str)))))).rose.slice x7)]] = bif x0 == (16 : Int) then bif x2.toList == (ByteArray.mk #[(97 : UInt8), (110 : UInt8), (100 : UInt8)]).toList then chk (decide ((0 : Int) < (↑x7.length : Int))) (chk (Sp.fitTs (x7.getD (0 : Nat) (Rose.mk ((0 : Int), (0 : Int), ByteArray.mk #[], ByteArray.mk #[], (0 : Int), (0 : Int), ByteArray.mk #[]) [])).kids && (Sp.cnt32 (x7.getD (0 : Nat) (Rose.mk ((0 : Int), (0 : Int), ByteArray.mk #[], ByteArray.mk #[], (0 : Int), (0 : Int), ByteArray.mk #[]) [])).kids && Sp.andT (Sp.mkT ((x7.getD (0 : Nat) (Rose.mk ((0 : Int), (0 : Int), ByteArray.mk #[], ByteArray.mk #[], (0 : Int), (0 : Int), ByteArray.mk #[]) [])).a.1, (x7.getD (0 : Nat) (Rose.mk ((0 : Int), (0 : Int), ByteArray.mk #[], ByteArray.mk #[], (0 : Int), (0 : Int), ByteArray.mk #[]) [])).a.2.1, (x7.getD (0 : Nat) (Rose.mk ((0 : Int), (0 : Int), ByteArray.mk #[], ByteArray.mk #[], (0 : Int), (0 : Int), ByteArray.mk #[]) [])).a.2.2.1, (x7.getD (0 : Nat) (Rose.mk ((0 : Int), (0 : Int), ByteArray.mk #[], ByteArray.mk #[], (0 : Int), (0 : Int), ByteArray.mk #[]) [])).a.2.2.2.1, (x7.getD (0 : Nat) (Rose.mk ((0 : Int), (0 : Int), ByteArray.mk #[], ByteArray.mk #[], (0 : Int), (0 : Int), ByteArray.mk #[]) [])).a.2.2.2.2.1, (x7.getD (0 : Nat) (Rose.mk ((0 : Int), (0 : Int), ByteArray.mk #[], ByteArray.mk #[], (0 : Int), (0 : Int), ByteArray.mk #[]) [])).a.2.2.2.2.2.1, (x7.getD (0 : Nat) (Rose.mk ((0 : Int), (0 : Int), ByteArray.mk #[], ByteArray.mk #[], (0 : Int), (0 : Int), ByteArray.mk #[]) [])).a.2.2.2.2.2.2, (x7.getD (0 : Nat) (Rose.mk ((0 : Int), (0 : Int), ByteArray.mk #[], ByteArray.mk #[], (0 : Int), (0 : Int), ByteArray.mk #[]) [])).kids))) && (Sp.rsz1 (x7.getD (0 : Nat) (Rose.mk ((0 : Int), (0 : Int), ByteArray.mk #[], ByteArray.mk #[], (0 : Int), (0 : Int), ByteArray.mk #[]) [])).kids).blt N) (chk (decide ((1 : Int) < (↑x7.length : Int))) (chk (Sp.fitTs (x7.getD (1 : Nat) (Rose.mk ((0 : Int), (0 : Int), ByteArray.mk #[], ByteArray.mk #[], (0 : Int), (0 : Int), ByteArray.mk #[]) [])).kids && (Sp.cnt32 (x7.getD (1 : Nat) (Rose.mk ((0 : Int), (0 : Int), ByteArray.mk #[], ByteArray.mk #[], (0 : Int), (0 : Int), ByteArray.mk #[]) [])).kids && Sp.andT (Sp.mkT ((x7.getD (1 : Nat) (Rose.mk ((0 : Int), (0 : Int), ByteArray.mk #[], ByteArray.mk #[], (0 : Int), (0 : Int), ByteArray.mk #[]) [])).a.1, (x7.getD (1 : Nat) (Rose.mk ((0 : Int), (0 : Int), ByteArray.mk #[], ByteArray.mk #[], (0 : Int), (0 : Int), ByteArray.mk #[]) [])).a.2.1, (x7.getD (1 : Nat) (Rose.mk ((0 : Int), (0 : Int), ByteArray.mk #[], ByteArray.mk #[], (0 : Int), (0 : Int), ByteArray.mk #[]) [])).a.2.2.1, (x7.getD (1 : Nat) (Rose.mk ((0 : Int), (0 : Int), ByteArray.mk #[], ByteArray.mk #[], (0 : Int), (0 : Int), ByteArray.mk #[]) [])).a.2.2.2.1, (x7.getD (1 : Nat) (Rose.mk ((0 : Int), (0 : Int), ByteArray.mk #[], ByteArray.mk #[], (0 : Int), (0 : Int), ByteArray.mk #[]) [])).a.2.2.2.2.1, (x7.getD (1 : Nat) (Rose.mk ((0 : Int), (0 : Int), ByteArray.mk #[], ByteArray.mk #[], (0 : Int), (0 : Int), ByteArray.mk #[]) [])).a.2.2.2.2.2.1, (x7.getD (1 : Nat) (Rose.mk ((0 : Int), (0 : Int), ByteArray.mk #[], ByteArray.mk #[], (0 : Int), (0 : Int), ByteArray.mk #[]) [])).a.2.2.2.2.2.2, (x7.getD (1 : Nat) (Rose.mk ((0 : Int), (0 : Int), ByteArray.mk #[], ByteArray.mk #[], (0 : Int), (0 : Int), ByteArray.mk #[]) [])).kids))) && (Sp.rsz1 (x7.getD (1 : Nat) (Rose.mk ((0 : Int), (0 : Int), ByteArray.mk #[], ByteArray.mk #[], (0 : Int), (0 : Int), ByteArray.mk #[]) [])).kids).blt N) (chk (decide (((Sp.conjT (Sp.mkT ((x7.getD (0 : Nat) (Rose.mk ((0 : Int), (0 : Int), ByteArray.mk #[], ByteArray.mk #[], (0 : Int), (0 : Int), ByteArray.mk #[]) [])).a.1, (x7.getD (0 : Nat) (Rose.mk ((0 : Int), (0 : Int), ByteArray.mk #[], ByteArray.mk #[], (0 : Int), (0 : Int), ByteArray.mk #[]) [])).a.2.1, (x7.getD (0 : Nat) (Rose.mk ((0 : Int), (0 : Int), ByteArray.mk #[], ByteArray.mk #[], (0 : Int), (0 : Int), ByteArray.mk #[]) [])).a.2.2.1, (x7.getD (0 : Nat) (Rose.mk ((0 : Int), (0 : Int), ByteArray.mk #[], ByteArray.mk #[], (0 : Int), (0 : Int), ByteArray.mk #[]) [])).a.2.2.2.1, (x7.getD (0 : Nat) (Rose.mk ((0 : Int), (0 : Int), ByteArray.mk #[], ByteArray.mk #[], (0 : Int), (0 : Int), ByteArray.mk #[]) [])).a.2.2.2.2.1, (x7.getD (0 : Nat) (Rose.mk ((0 : Int), (0 : Int), ByteArray.mk #[], ByteArray.mk #[], (0 : Int), (0 : Int), ByteArray.mk #[]) [])).a.2.2.2.2.2.1, (x7.getD (0 : Nat) (Rose.mk ((0 : Int), (0 : Int), ByteArray.mk #[], ByteArray.mk #[], (0 : Int), (0 : Int), ByteArray.mk #[]) [])).a.2.2.2.2.2.2, (x7.getD (0 : Nat) (Rose.mk ((0 : Int), (0 : Int), ByteArray.mk #[], ByteArray.mk #[], (0 : Int), (0 : Int), ByteArray.mk #[]) [])).kids))).length + (Sp.conjT (Sp.mkT ((x7.getD (1 : Nat) (Rose.mk ((0 : Int), (0 : Int), ByteArray.mk #[], ByteArray.mk #[], (0 : Int), (0 : Int), ByteArray.mk #[]) [])).a.1, (x7.getD (1 : Nat) (Rose.mk ((0 : Int), (0 : Int), ByteArray.mk #[], ByteArray.mk #[], (0 : Int), (0 : Int), ByteArray.mk #[]) [])).a.2.1, (x7.getD (1 : Nat) (Rose.mk ((0 : Int), (0 : Int), ByteArray.mk #[], ByteArray.mk #[], (0 : Int), (0 : Int), ByteArray.mk #[]) [])).a.2.2.1, (x7.getD (1 : Nat) (Rose.mk ((0 : Int), (0 : Int), ByteArray.mk #[], ByteArray.mk #[], (0 : Int), (0 : Int), ByteArray.mk #[]) [])).a.2.2.2.1, (x7.getD (1 : Nat) (Rose.mk ((0 : Int), (0 : Int), ByteArray.mk #[], ByteArray.mk #[], (0 : Int), (0 : Int), ByteArray.mk #[]) [])).a.2.2.2.2.1, (x7.getD (1 : Nat) (Rose.mk ((0 : Int), (0 : Int), ByteArray.mk #[], ByteArray.mk #[], (0 : Int), (0 : Int), ByteArray.mk #[]) [])).a.2.2.2.2.2.1, (x7.getD (1 : Nat) (Rose.mk ((0 : Int), (0 : Int), ByteArray.mk #[], ByteArray.mk #[], (0 : Int), (0 : Int), ByteArray.mk #[]) [])).a.2.2.2.2.2.2, (x7.getD (1 : Nat) (Rose.mk ((0 : Int), (0 : Int), ByteArray.mk #[], ByteArray.mk #[], (0 : Int), (0 : Int), ByteArray.mk #[]) [])).kids))).length) * (104 : Nat) ≤ (140737488355328 : Nat))) (some (Res.mk [XV.mk false [X.c (X0.row ((Ty.int IntKind.i64).pair ((Ty.int IntKind.i64).pair (Ty.str.pair (Ty.str.pair ((Ty.int IntKind.i64).pair ((Ty.int IntKind.i64).pair Ty.str)))))).rose (Sp.conjT (Sp.mkT ((x7.getD (0 : Nat) (Rose.mk ((0 : Int), (0 : Int), ByteArray.mk #[], ByteArray.mk #[], (0 : Int), (0 : Int), ByteArray.mk #[]) [])).a.1, (x7.getD (0 : Nat) (Rose.mk ((0 : Int), (0 : Int), ByteArray.mk #[], ByteArray.mk #[], (0 : Int), (0 : Int), ByteArray.mk #[]) [])).a.2.1, (x7.getD (0 : Nat) (Rose.mk ((0 : Int), (0 : Int), ByteArray.mk #[], ByteArray.mk #[], (0 : Int), (0 : Int), ByteArray.mk #[]) [])).a.2.2.1, (x7.getD (0 : Nat) (Rose.mk ((0 : Int), (0 : Int), ByteArray.mk #[], ByteArray.mk #[], (0 : Int), (0 : Int), ByteArray.mk #[]) [])).a.2.2.2.1, (x7.getD (0 : Nat) (Rose.mk ((0 : Int), (0 : Int), ByteArray.mk #[], ByteArray.mk #[], (0 : Int), (0 : Int), ByteArray.mk #[]) [])).a.2.2.2.2.1, (x7.getD (0 : Nat) (Rose.mk ((0 : Int), (0 : Int), ByteArray.mk #[], ByteArray.mk #[], (0 : Int), (0 : Int), ByteArray.mk #[]) [])).a.2.2.2.2.2.1, (x7.getD (0 : Nat) (Rose.mk ((0 : Int), (0 : Int), ByteArray.mk #[], ByteArray.mk #[], (0 : Int), (0 : Int), ByteArray.mk #[]) [])).a.2.2.2.2.2.2, (x7.getD (0 : Nat) (Rose.mk ((0 : Int), (0 : Int), ByteArray.mk #[], ByteArray.mk #[], (0 : Int), (0 : Int), ByteArray.mk #[]) [])).kids)) ++ Sp.conjT (Sp.mkT ((x7.getD (1 : Nat) (Rose.mk ((0 : Int), (0 : Int), ByteArray.mk #[], ByteArray.mk #[], (0 : Int), (0 : Int), ByteArray.mk #[]) [])).a.1, (x7.getD (1 : Nat) (Rose.mk ((0 : Int), (0 : Int), ByteArray.mk #[], ByteArray.mk #[], (0 : Int), (0 : Int), ByteArray.mk #[]) [])).a.2.1, (x7.getD (1 : Nat) (Rose.mk ((0 : Int), (0 : Int), ByteArray.mk #[], ByteArray.mk #[], (0 : Int), (0 : Int), ByteArray.mk #[]) [])).a.2.2.1, (x7.getD (1 : Nat) (Rose.mk ((0 : Int), (0 : Int), ByteArray.mk #[], ByteArray.mk #[], (0 : Int), (0 : Int), ByteArray.mk #[]) [])).a.2.2.2.1, (x7.getD (1 : Nat) (Rose.mk ((0 : Int), (0 : Int), ByteArray.mk #[], ByteArray.mk #[], (0 : Int), (0 : Int), ByteArray.mk #[]) [])).a.2.2.2.2.1, (x7.getD (1 : Nat) (Rose.mk ((0 : Int), (0 : Int), ByteArray.mk #[], ByteArray.mk #[], (0 : Int), (0 : Int), ByteArray.mk #[]) [])).a.2.2.2.2.2.1, (x7.getD (1 : Nat) (Rose.mk ((0 : Int), (0 : Int), ByteArray.mk #[], ByteArray.mk #[], (0 : Int), (0 : Int), ByteArray.mk #[]) [])).a.2.2.2.2.2.2, (x7.getD (1 : Nat) (Rose.mk ((0 : Int), (0 : Int), ByteArray.mk #[], ByteArray.mk #[], (0 : Int), (0 : Int), ByteArray.mk #[]) [])).kids))) true)]] [])))))) else chk (Sp.fitTs x7) (some (Res.mk [XV.mk false [X.c (X0.row ((Ty.int IntKind.i64).pair ((Ty.int IntKind.i64).pair (Ty.str.pair (Ty.str.pair ((Ty.int IntKind.i64).pair ((Ty.int IntKind.i64).pair Ty.str)))))).rose [Rose.mk (x0, x1, x2, x3, x4, x5, x6) x7] true)]] [])) else chk (Sp.fitTs x7) (some (Res.mk [XV.mk false [X.c (X0.row ((Ty.int IntKind.i64).pair ((Ty.int IntKind.i64).pair (Ty.str.pair (Ty.str.pair ((Ty.int IntKind.i64).pair ((Ty.int IntKind.i64).pair Ty.str)))))).rose [Rose.mk (x0, x1, x2, x3, x4, x5, x6) x7] true)]] [])) := by kernel_rfl

theorem conj_len : ∀ r : RT, (Sp.conjT r).length ≤ Sp.cntT r :=
  Rose.ind fun a ks ih => by
    rw [Sp.conjT, Sp.cntT]
    cases Sp.isAnd a with
    | false => rw [cond_false, List.length_singleton]; omega
    | true =>
      rw [cond_true]
      match ks, ih with
      | [], _ => rw [Sp.conj2]; exact Nat.zero_le _; all_goals simp
      | [r], _ => rw [Sp.conj2]; exact Nat.zero_le _; all_goals simp
      | r :: s :: l, ih =>
        rw [Sp.conj2, List.length_append, Sp.cntTs, Sp.cntTs]
        have h1 := ih r (by simp)
        have h2 := ih s (by simp)
        omega
theorem and2_of {ks : List RT} (h : Sp.and2 ks = true) : ∃ r s l, ks = r :: s :: l ∧ Sp.andT r = true ∧ Sp.andT s = true := by
  match ks, h with
  | [], h => rw [Sp.and2] at h; cases h; all_goals simp
  | [r], h => rw [Sp.and2] at h; cases h; all_goals simp
  | r :: s :: l, h => rw [Sp.and2, Bool.and_eq_true_iff] at h; exact ⟨r, s, l, rfl, h.1, h.2⟩
theorem mkT_fldsC (r : RT) : Sp.mkT (r.a.1, r.a.2.1, r.a.2.2.1, r.a.2.2.2.1, r.a.2.2.2.2.1, r.a.2.2.2.2.2.1, r.a.2.2.2.2.2.2, r.kids) = r := by cases r; rfl
noncomputable abbrev recCj : List REnt := [⟨e1017, fun a => Sp.rsz1 a.2.2.2.2.2.2.2⟩]
abbrev rTs (ks : List RT) : Res := Res.mk [XV.mk false [X.c (X0.row tT ks true)]] []
abbrev rTl (ks : List RT) : Res := Res.mk [XV.mk false [X.c (X0.row tT ks false)]] []
theorem room104' {n : Nat} (h : n ≤ 1000000000000) : decide (n * 104 ≤ 140737488355328) = true := decide_eq_true (by omega)
theorem e1017_core (x0 x1 : Int) (x2 x3 : ByteArray) (x4 x5 : Int) (x6 : ByteArray) (x7 : List RT) (h1 : Sp.fitTs x7 = true) (h2 : Sp.cnt32 x7 = true) (h3 : Sp.andT (Sp.mkT (x0, x1, x2, x3, x4, x5, x6, x7)) = true) : abody Γ (orc (belows (Sp.rsz1 x7) recCj ++ [e1022])) 0 n1017 (e1017.args (x0, x1, x2, x3, x4, x5, x6, x7)) = some (e1017.res (x0, x1, x2, x3, x4, x5, x6, x7)) := by
  refine (f1017_raw _ x0 x1 x2 x3 x4 x5 x6 x7).trans ?_
  have e : Sp.conjT (Rose.mk (x0, x1, x2, x3, (x4, x5, x6)) x7) = bif Sp.isAnd (x0, x1, x2, x3, (x4, x5, x6)) then Sp.conj2 x7 else [Rose.mk (x0, x1, x2, x3, (x4, x5, x6)) x7] := by rw [Sp.conjT]
  refine Eq.trans ?_ (congrArg (fun z => some (rTs z)) e.symm)
  have h3 : Sp.andT (Rose.mk (x0, x1, x2, x3, (x4, x5, x6)) x7) = true := h3
  rw [Sp.andT] at h3
  have ea : Sp.isAnd (x0, x1, x2, x3, (x4, x5, x6)) = bif x0 == 16 then x2.toList == (ByteArray.mk #[97, 110, 100]).toList else false := rfl
  rw [ea] at h3 ⊢
  rw [h1, chkT]
  cases hk : x0 == (16 : Int) with
  | false => rfl
  | true =>
    rw [hk, cond_true] at h3
    rw [cond_true, cond_true]
    cases hn : x2.toList == (ByteArray.mk #[97, 110, 100]).toList with
    | false => rfl
    | true =>
      rw [hn, cond_true] at h3
      obtain ⟨r, s, l, rfl, a1, a2⟩ := and2_of h3
      obtain ⟨_, f2⟩ := fitTs_of h1
      have c0 := cnt32_of h2
      rw [Sp.cntTs, Sp.cntTs] at c0
      have k0 := cnt_kids r
      have k1 := cnt_kids s
      have g0 : ∀ d, (r :: s :: l : List RT).getD 0 d = r := fun _ => rfl
      have g1 : ∀ d, (r :: s :: l : List RT).getD 1 d = s := fun _ => rfl
      have b0 : (Sp.rsz1 r.kids).blt (Sp.rsz1 (r :: s :: l)) = true := blt_mk (by have := rsz1_mem (l := r :: s :: l) (r := r) (by simp); unfold Sp.rsz1 at this ⊢; omega)
      have b1 : (Sp.rsz1 s.kids).blt (Sp.rsz1 (r :: s :: l)) = true := blt_mk (by have := rsz1_mem (l := r :: s :: l) (r := s) (by simp); unfold Sp.rsz1 at this ⊢; omega)
      have p0 : decide ((0 : Int) < ((r :: s :: l : List RT).length : Int)) = true := decide_eq_true (by simp only [List.length_cons]; omega)
      have p1 : decide ((1 : Int) < ((r :: s :: l : List RT).length : Int)) = true := decide_eq_true (by simp only [List.length_cons]; omega)
      have l0 := conj_len r
      have l1 := conj_len s
      rw [cond_true, cond_true, p0, p1, chkT, g0, g1, mkT_fldsC, mkT_fldsC, f2 r (by simp), f2 s (by simp), cnt32_mk (by omega), cnt32_mk (by omega), a1, a2, b0, b1]
      simp only [Bool.and_self, chkT]
      rw [room104' (by omega), chkT, Sp.conj2]
theorem e1017_ok : Valid PP Γ e1017 := valid_recs ok recCj (rcons ⟨[e1022], vcons e1022_ok vnil, fun a ha _ => by
    obtain ⟨h1, h2⟩ := Bool.and_eq_true_iff.1 ha
    obtain ⟨h2, h3⟩ := Bool.and_eq_true_iff.1 h2
    exact ⟨0, e1017_core a.1 a.2.1 a.2.2.1 a.2.2.2.1 a.2.2.2.2.1 a.2.2.2.2.2.1 a.2.2.2.2.2.2.1 a.2.2.2.2.2.2.2 h1 h2 h3⟩⟩ rnil) _ (List.mem_cons_self)
def Sp.small12 (l : List RT) (n : Nat) : Bool := Nat.ble (l.length + n) 1000000000000
def Sp.catT (l m : List RT) : List RT := l ++ m
noncomputable def e1013 : Ent := { f := n1013, ins := [Sh.agg aT, Sh.one (C0.row tT)], outs := [Sh.one (C0.lax tT)], upd := [], pre := fun a => Sp.small12 a.2 (Sp.cntTs a.1.2.2.2.2.2.2.2) && Sp.andT (Sp.mkT a.1), spec := fun a => Sp.catT a.2 (Sp.conjT (Sp.mkT a.1)), wrt := fun _ => () }
noncomputable def e1013l : Ent := { f := n1013, ins := [Sh.agg aT, Sh.one (C0.lax tT)], outs := [Sh.one (C0.lax tT)], upd := [], pre := fun a => Sp.small12 a.2 (Sp.cntTs a.1.2.2.2.2.2.2.2) && Sp.andT (Sp.mkT a.1), spec := fun a => Sp.catT a.2 (Sp.conjT (Sp.mkT a.1)), wrt := fun _ => () }
noncomputable def e1013n (N : Nat) : Ent := e1013.below (fun a => Sp.rsz1 a.1.2.2.2.2.2.2.2) N
noncomputable def e1013ln (N : Nat) : Ent := e1013l.below (fun a => Sp.rsz1 a.1.2.2.2.2.2.2.2) N
theorem f1013_raw (N : Nat) (x0 : Int) (x1 : Int) (x2 : ByteArray) (x3 : ByteArray) (x4 : Int) (x5 : Int) (x6 : ByteArray) (x7 : List (Rose (Int × Int × ByteArray × ByteArray × Int × Int × ByteArray))) (x8 : List (Rose (Int × Int × ByteArray × ByteArray × Int × Int × ByteArray))) : abody Γ (orc [e1013n N, e1013ln N]) 0 16 [XV.mk true [X.c (X0.dat (Ty.int IntKind.i64) x0), X.c (X0.dat (Ty.int IntKind.i64) x1), X.c (X0.dat Ty.str x2), X.c (X0.dat Ty.str x3), X.c (X0.dat (Ty.int IntKind.i64) x4), X.c (X0.dat (Ty.int IntKind.i64) x5), X.c (X0.dat Ty.str x6), X.c (X0.dat ((Ty.int IntKind.i64).pair ((Ty.int IntKind.i64).pair (Ty.str.pair (Ty.str.pair ((Ty.int IntKind.i64).pair ((Ty.int IntKind.i64).pair Ty.str)))))).rose.slice x7)], XV.mk false [X.c (X0.row ((Ty.int IntKind.i64).pair ((Ty.int IntKind.i64).pair (Ty.str.pair (Ty.str.pair ((Ty.int IntKind.i64).pair ((Ty.int IntKind.i64).pair Ty.str)))))).rose x8 true)]] = bif x0 == (16 : Int) then bif x2.toList == (ByteArray.mk #[(97 : UInt8), (110 : UInt8), (100 : UInt8)]).toList then chk (decide ((1 : Int) < (↑x7.length : Int))) (chk (decide ((0 : Int) < (↑x7.length : Int))) (chk (Sp.small12 x8 (Sp.cntTs (x7.getD (0 : Nat) (Rose.mk ((0 : Int), (0 : Int), ByteArray.mk #[], ByteArray.mk #[], (0 : Int), (0 : Int), ByteArray.mk #[]) [])).kids) && Sp.andT (Sp.mkT ((x7.getD (0 : Nat) (Rose.mk ((0 : Int), (0 : Int), ByteArray.mk #[], ByteArray.mk #[], (0 : Int), (0 : Int), ByteArray.mk #[]) [])).a.1, (x7.getD (0 : Nat) (Rose.mk ((0 : Int), (0 : Int), ByteArray.mk #[], ByteArray.mk #[], (0 : Int), (0 : Int), ByteArray.mk #[]) [])).a.2.1, (x7.getD (0 : Nat) (Rose.mk ((0 : Int), (0 : Int), ByteArray.mk #[], ByteArray.mk #[], (0 : Int), (0 : Int), ByteArray.mk #[]) [])).a.2.2.1, (x7.getD (0 : Nat) (Rose.mk ((0 : Int), (0 : Int), ByteArray.mk #[], ByteArray.mk #[], (0 : Int), (0 : Int), ByteArray.mk #[]) [])).a.2.2.2.1, (x7.getD (0 : Nat) (Rose.mk ((0 : Int), (0 : Int), ByteArray.mk #[], ByteArray.mk #[], (0 : Int), (0 : Int), ByteArray.mk #[]) [])).a.2.2.2.2.1, (x7.getD (0 : Nat) (Rose.mk ((0 : Int), (0 : Int), ByteArray.mk #[], ByteArray.mk #[], (0 : Int), (0 : Int), ByteArray.mk #[]) [])).a.2.2.2.2.2.1, (x7.getD (0 : Nat) (Rose.mk ((0 : Int), (0 : Int), ByteArray.mk #[], ByteArray.mk #[], (0 : Int), (0 : Int), ByteArray.mk #[]) [])).a.2.2.2.2.2.2, (x7.getD (0 : Nat) (Rose.mk ((0 : Int), (0 : Int), ByteArray.mk #[], ByteArray.mk #[], (0 : Int), (0 : Int), ByteArray.mk #[]) [])).kids)) && (Sp.rsz1 (x7.getD (0 : Nat) (Rose.mk ((0 : Int), (0 : Int), ByteArray.mk #[], ByteArray.mk #[], (0 : Int), (0 : Int), ByteArray.mk #[]) [])).kids).blt N) (chk (Sp.small12 (Sp.catT x8 (Sp.conjT (Sp.mkT ((x7.getD (0 : Nat) (Rose.mk ((0 : Int), (0 : Int), ByteArray.mk #[], ByteArray.mk #[], (0 : Int), (0 : Int), ByteArray.mk #[]) [])).a.1, (x7.getD (0 : Nat) (Rose.mk ((0 : Int), (0 : Int), ByteArray.mk #[], ByteArray.mk #[], (0 : Int), (0 : Int), ByteArray.mk #[]) [])).a.2.1, (x7.getD (0 : Nat) (Rose.mk ((0 : Int), (0 : Int), ByteArray.mk #[], ByteArray.mk #[], (0 : Int), (0 : Int), ByteArray.mk #[]) [])).a.2.2.1, (x7.getD (0 : Nat) (Rose.mk ((0 : Int), (0 : Int), ByteArray.mk #[], ByteArray.mk #[], (0 : Int), (0 : Int), ByteArray.mk #[]) [])).a.2.2.2.1, (x7.getD (0 : Nat) (Rose.mk ((0 : Int), (0 : Int), ByteArray.mk #[], ByteArray.mk #[], (0 : Int), (0 : Int), ByteArray.mk #[]) [])).a.2.2.2.2.1, (x7.getD (0 : Nat) (Rose.mk ((0 : Int), (0 : Int), ByteArray.mk #[], ByteArray.mk #[], (0 : Int), (0 : Int), ByteArray.mk #[]) [])).a.2.2.2.2.2.1, (x7.getD (0 : Nat) (Rose.mk ((0 : Int), (0 : Int), ByteArray.mk #[], ByteArray.mk #[], (0 : Int), (0 : Int), ByteArray.mk #[]) [])).a.2.2.2.2.2.2, (x7.getD (0 : Nat) (Rose.mk ((0 : Int), (0 : Int), ByteArray.mk #[], ByteArray.mk #[], (0 : Int), (0 : Int), ByteArray.mk #[]) [])).kids)))) (Sp.cntTs (x7.getD (1 : Nat) (Rose.mk ((0 : Int), (0 : Int), ByteArray.mk #[], ByteArray.mk #[], (0 : Int), (0 : Int), ByteArray.mk #[]) [])).kids) && Sp.andT (Sp.mkT ((x7.getD (1 : Nat) (Rose.mk ((0 : Int), (0 : Int), ByteArray.mk #[], ByteArray.mk #[], (0 : Int), (0 : Int), ByteArray.mk #[]) [])).a.1, (x7.getD (1 : Nat) (Rose.mk ((0 : Int), (0 : Int), ByteArray.mk #[], ByteArray.mk #[], (0 : Int), (0 : Int), ByteArray.mk #[]) [])).a.2.1, (x7.getD (1 : Nat) (Rose.mk ((0 : Int), (0 : Int), ByteArray.mk #[], ByteArray.mk #[], (0 : Int), (0 : Int), ByteArray.mk #[]) [])).a.2.2.1, (x7.getD (1 : Nat) (Rose.mk ((0 : Int), (0 : Int), ByteArray.mk #[], ByteArray.mk #[], (0 : Int), (0 : Int), ByteArray.mk #[]) [])).a.2.2.2.1, (x7.getD (1 : Nat) (Rose.mk ((0 : Int), (0 : Int), ByteArray.mk #[], ByteArray.mk #[], (0 : Int), (0 : Int), ByteArray.mk #[]) [])).a.2.2.2.2.1, (x7.getD (1 : Nat) (Rose.mk ((0 : Int), (0 : Int), ByteArray.mk #[], ByteArray.mk #[], (0 : Int), (0 : Int), ByteArray.mk #[]) [])).a.2.2.2.2.2.1, (x7.getD (1 : Nat) (Rose.mk ((0 : Int), (0 : Int), ByteArray.mk #[], ByteArray.mk #[], (0 : Int), (0 : Int), ByteArray.mk #[]) [])).a.2.2.2.2.2.2, (x7.getD (1 : Nat) (Rose.mk ((0 : Int), (0 : Int), ByteArray.mk #[], ByteArray.mk #[], (0 : Int), (0 : Int), ByteArray.mk #[]) [])).kids)) && (Sp.rsz1 (x7.getD (1 : Nat) (Rose.mk ((0 : Int), (0 : Int), ByteArray.mk #[], ByteArray.mk #[], (0 : Int), (0 : Int), ByteArray.mk #[]) [])).kids).blt N) (some (Res.mk [XV.mk false [X.c (X0.row ((Ty.int IntKind.i64).pair ((Ty.int IntKind.i64).pair (Ty.str.pair (Ty.str.pair ((Ty.int IntKind.i64).pair ((Ty.int IntKind.i64).pair Ty.str)))))).rose (Sp.catT (Sp.catT x8 (Sp.conjT (Sp.mkT ((x7.getD (0 : Nat) (Rose.mk ((0 : Int), (0 : Int), ByteArray.mk #[], ByteArray.mk #[], (0 : Int), (0 : Int), ByteArray.mk #[]) [])).a.1, (x7.getD (0 : Nat) (Rose.mk ((0 : Int), (0 : Int), ByteArray.mk #[], ByteArray.mk #[], (0 : Int), (0 : Int), ByteArray.mk #[]) [])).a.2.1, (x7.getD (0 : Nat) (Rose.mk ((0 : Int), (0 : Int), ByteArray.mk #[], ByteArray.mk #[], (0 : Int), (0 : Int), ByteArray.mk #[]) [])).a.2.2.1, (x7.getD (0 : Nat) (Rose.mk ((0 : Int), (0 : Int), ByteArray.mk #[], ByteArray.mk #[], (0 : Int), (0 : Int), ByteArray.mk #[]) [])).a.2.2.2.1, (x7.getD (0 : Nat) (Rose.mk ((0 : Int), (0 : Int), ByteArray.mk #[], ByteArray.mk #[], (0 : Int), (0 : Int), ByteArray.mk #[]) [])).a.2.2.2.2.1, (x7.getD (0 : Nat) (Rose.mk ((0 : Int), (0 : Int), ByteArray.mk #[], ByteArray.mk #[], (0 : Int), (0 : Int), ByteArray.mk #[]) [])).a.2.2.2.2.2.1, (x7.getD (0 : Nat) (Rose.mk ((0 : Int), (0 : Int), ByteArray.mk #[], ByteArray.mk #[], (0 : Int), (0 : Int), ByteArray.mk #[]) [])).a.2.2.2.2.2.2, (x7.getD (0 : Nat) (Rose.mk ((0 : Int), (0 : Int), ByteArray.mk #[], ByteArray.mk #[], (0 : Int), (0 : Int), ByteArray.mk #[]) [])).kids)))) (Sp.conjT (Sp.mkT ((x7.getD (1 : Nat) (Rose.mk ((0 : Int), (0 : Int), ByteArray.mk #[], ByteArray.mk #[], (0 : Int), (0 : Int), ByteArray.mk #[]) [])).a.1, (x7.getD (1 : Nat) (Rose.mk ((0 : Int), (0 : Int), ByteArray.mk #[], ByteArray.mk #[], (0 : Int), (0 : Int), ByteArray.mk #[]) [])).a.2.1, (x7.getD (1 : Nat) (Rose.mk ((0 : Int), (0 : Int), ByteArray.mk #[], ByteArray.mk #[], (0 : Int), (0 : Int), ByteArray.mk #[]) [])).a.2.2.1, (x7.getD (1 : Nat) (Rose.mk ((0 : Int), (0 : Int), ByteArray.mk #[], ByteArray.mk #[], (0 : Int), (0 : Int), ByteArray.mk #[]) [])).a.2.2.2.1, (x7.getD (1 : Nat) (Rose.mk ((0 : Int), (0 : Int), ByteArray.mk #[], ByteArray.mk #[], (0 : Int), (0 : Int), ByteArray.mk #[]) [])).a.2.2.2.2.1, (x7.getD (1 : Nat) (Rose.mk ((0 : Int), (0 : Int), ByteArray.mk #[], ByteArray.mk #[], (0 : Int), (0 : Int), ByteArray.mk #[]) [])).a.2.2.2.2.2.1, (x7.getD (1 : Nat) (Rose.mk ((0 : Int), (0 : Int), ByteArray.mk #[], ByteArray.mk #[], (0 : Int), (0 : Int), ByteArray.mk #[]) [])).a.2.2.2.2.2.2, (x7.getD (1 : Nat) (Rose.mk ((0 : Int), (0 : Int), ByteArray.mk #[], ByteArray.mk #[], (0 : Int), (0 : Int), ByteArray.mk #[]) [])).kids)))) false)]] []))))) else chk (decide ((x8.length + [Rose.mk (x0, x1, x2, x3, x4, x5, x6) x7].length) * (104 : Nat) ≤ (140737488355328 : Nat))) (some (Res.mk [XV.mk false [X.c (X0.row ((Ty.int IntKind.i64).pair ((Ty.int IntKind.i64).pair (Ty.str.pair (Ty.str.pair ((Ty.int IntKind.i64).pair ((Ty.int IntKind.i64).pair Ty.str)))))).rose (x8 ++ [Rose.mk (x0, x1, x2, x3, x4, x5, x6) x7]) false)]] [])) else chk (decide ((x8.length + [Rose.mk (x0, x1, x2, x3, x4, x5, x6) x7].length) * (104 : Nat) ≤ (140737488355328 : Nat))) (some (Res.mk [XV.mk false [X.c (X0.row ((Ty.int IntKind.i64).pair ((Ty.int IntKind.i64).pair (Ty.str.pair (Ty.str.pair ((Ty.int IntKind.i64).pair ((Ty.int IntKind.i64).pair Ty.str)))))).rose (x8 ++ [Rose.mk (x0, x1, x2, x3, x4, x5, x6) x7]) false)]] [])) := by kernel_rfl

theorem f1013l_raw (N : Nat) (x0 : Int) (x1 : Int) (x2 : ByteArray) (x3 : ByteArray) (x4 : Int) (x5 : Int) (x6 : ByteArray) (x7 : List (Rose (Int × Int × ByteArray × ByteArray × Int × Int × ByteArray))) (x8 : List (Rose (Int × Int × ByteArray × ByteArray × Int × Int × ByteArray))) : abody Γ (orc [e1013n N, e1013ln N]) 0 16 [XV.mk true [X.c (X0.dat (Ty.int IntKind.i64) x0), X.c (X0.dat (Ty.int IntKind.i64) x1), X.c (X0.dat Ty.str x2), X.c (X0.dat Ty.str x3), X.c (X0.dat (Ty.int IntKind.i64) x4), X.c (X0.dat (Ty.int IntKind.i64) x5), X.c (X0.dat Ty.str x6), X.c (X0.dat ((Ty.int IntKind.i64).pair ((Ty.int IntKind.i64).pair (Ty.str.pair (Ty.str.pair ((Ty.int IntKind.i64).pair ((Ty.int IntKind.i64).pair Ty.str)))))).rose.slice x7)], XV.mk false [X.c (X0.row ((Ty.int IntKind.i64).pair ((Ty.int IntKind.i64).pair (Ty.str.pair (Ty.str.pair ((Ty.int IntKind.i64).pair ((Ty.int IntKind.i64).pair Ty.str)))))).rose x8 false)]] = bif x0 == (16 : Int) then bif x2.toList == (ByteArray.mk #[(97 : UInt8), (110 : UInt8), (100 : UInt8)]).toList then chk (decide ((1 : Int) < (↑x7.length : Int))) (chk (decide ((0 : Int) < (↑x7.length : Int))) (chk (Sp.small12 x8 (Sp.cntTs (x7.getD (0 : Nat) (Rose.mk ((0 : Int), (0 : Int), ByteArray.mk #[], ByteArray.mk #[], (0 : Int), (0 : Int), ByteArray.mk #[]) [])).kids) && Sp.andT (Sp.mkT ((x7.getD (0 : Nat) (Rose.mk ((0 : Int), (0 : Int), ByteArray.mk #[], ByteArray.mk #[], (0 : Int), (0 : Int), ByteArray.mk #[]) [])).a.1, (x7.getD (0 : Nat) (Rose.mk ((0 : Int), (0 : Int), ByteArray.mk #[], ByteArray.mk #[], (0 : Int), (0 : Int), ByteArray.mk #[]) [])).a.2.1, (x7.getD (0 : Nat) (Rose.mk ((0 : Int), (0 : Int), ByteArray.mk #[], ByteArray.mk #[], (0 : Int), (0 : Int), ByteArray.mk #[]) [])).a.2.2.1, (x7.getD (0 : Nat) (Rose.mk ((0 : Int), (0 : Int), ByteArray.mk #[], ByteArray.mk #[], (0 : Int), (0 : Int), ByteArray.mk #[]) [])).a.2.2.2.1, (x7.getD (0 : Nat) (Rose.mk ((0 : Int), (0 : Int), ByteArray.mk #[], ByteArray.mk #[], (0 : Int), (0 : Int), ByteArray.mk #[]) [])).a.2.2.2.2.1, (x7.getD (0 : Nat) (Rose.mk ((0 : Int), (0 : Int), ByteArray.mk #[], ByteArray.mk #[], (0 : Int), (0 : Int), ByteArray.mk #[]) [])).a.2.2.2.2.2.1, (x7.getD (0 : Nat) (Rose.mk ((0 : Int), (0 : Int), ByteArray.mk #[], ByteArray.mk #[], (0 : Int), (0 : Int), ByteArray.mk #[]) [])).a.2.2.2.2.2.2, (x7.getD (0 : Nat) (Rose.mk ((0 : Int), (0 : Int), ByteArray.mk #[], ByteArray.mk #[], (0 : Int), (0 : Int), ByteArray.mk #[]) [])).kids)) && (Sp.rsz1 (x7.getD (0 : Nat) (Rose.mk ((0 : Int), (0 : Int), ByteArray.mk #[], ByteArray.mk #[], (0 : Int), (0 : Int), ByteArray.mk #[]) [])).kids).blt N) (chk (Sp.small12 (Sp.catT x8 (Sp.conjT (Sp.mkT ((x7.getD (0 : Nat) (Rose.mk ((0 : Int), (0 : Int), ByteArray.mk #[], ByteArray.mk #[], (0 : Int), (0 : Int), ByteArray.mk #[]) [])).a.1, (x7.getD (0 : Nat) (Rose.mk ((0 : Int), (0 : Int), ByteArray.mk #[], ByteArray.mk #[], (0 : Int), (0 : Int), ByteArray.mk #[]) [])).a.2.1, (x7.getD (0 : Nat) (Rose.mk ((0 : Int), (0 : Int), ByteArray.mk #[], ByteArray.mk #[], (0 : Int), (0 : Int), ByteArray.mk #[]) [])).a.2.2.1, (x7.getD (0 : Nat) (Rose.mk ((0 : Int), (0 : Int), ByteArray.mk #[], ByteArray.mk #[], (0 : Int), (0 : Int), ByteArray.mk #[]) [])).a.2.2.2.1, (x7.getD (0 : Nat) (Rose.mk ((0 : Int), (0 : Int), ByteArray.mk #[], ByteArray.mk #[], (0 : Int), (0 : Int), ByteArray.mk #[]) [])).a.2.2.2.2.1, (x7.getD (0 : Nat) (Rose.mk ((0 : Int), (0 : Int), ByteArray.mk #[], ByteArray.mk #[], (0 : Int), (0 : Int), ByteArray.mk #[]) [])).a.2.2.2.2.2.1, (x7.getD (0 : Nat) (Rose.mk ((0 : Int), (0 : Int), ByteArray.mk #[], ByteArray.mk #[], (0 : Int), (0 : Int), ByteArray.mk #[]) [])).a.2.2.2.2.2.2, (x7.getD (0 : Nat) (Rose.mk ((0 : Int), (0 : Int), ByteArray.mk #[], ByteArray.mk #[], (0 : Int), (0 : Int), ByteArray.mk #[]) [])).kids)))) (Sp.cntTs (x7.getD (1 : Nat) (Rose.mk ((0 : Int), (0 : Int), ByteArray.mk #[], ByteArray.mk #[], (0 : Int), (0 : Int), ByteArray.mk #[]) [])).kids) && Sp.andT (Sp.mkT ((x7.getD (1 : Nat) (Rose.mk ((0 : Int), (0 : Int), ByteArray.mk #[], ByteArray.mk #[], (0 : Int), (0 : Int), ByteArray.mk #[]) [])).a.1, (x7.getD (1 : Nat) (Rose.mk ((0 : Int), (0 : Int), ByteArray.mk #[], ByteArray.mk #[], (0 : Int), (0 : Int), ByteArray.mk #[]) [])).a.2.1, (x7.getD (1 : Nat) (Rose.mk ((0 : Int), (0 : Int), ByteArray.mk #[], ByteArray.mk #[], (0 : Int), (0 : Int), ByteArray.mk #[]) [])).a.2.2.1, (x7.getD (1 : Nat) (Rose.mk ((0 : Int), (0 : Int), ByteArray.mk #[], ByteArray.mk #[], (0 : Int), (0 : Int), ByteArray.mk #[]) [])).a.2.2.2.1, (x7.getD (1 : Nat) (Rose.mk ((0 : Int), (0 : Int), ByteArray.mk #[], ByteArray.mk #[], (0 : Int), (0 : Int), ByteArray.mk #[]) [])).a.2.2.2.2.1, (x7.getD (1 : Nat) (Rose.mk ((0 : Int), (0 : Int), ByteArray.mk #[], ByteArray.mk #[], (0 : Int), (0 : Int), ByteArray.mk #[]) [])).a.2.2.2.2.2.1, (x7.getD (1 : Nat) (Rose.mk ((0 : Int), (0 : Int), ByteArray.mk #[], ByteArray.mk #[], (0 : Int), (0 : Int), ByteArray.mk #[]) [])).a.2.2.2.2.2.2, (x7.getD (1 : Nat) (Rose.mk ((0 : Int), (0 : Int), ByteArray.mk #[], ByteArray.mk #[], (0 : Int), (0 : Int), ByteArray.mk #[]) [])).kids)) && (Sp.rsz1 (x7.getD (1 : Nat) (Rose.mk ((0 : Int), (0 : Int), ByteArray.mk #[], ByteArray.mk #[], (0 : Int), (0 : Int), ByteArray.mk #[]) [])).kids).blt N) (some (Res.mk [XV.mk false [X.c (X0.row ((Ty.int IntKind.i64).pair ((Ty.int IntKind.i64).pair (Ty.str.pair (Ty.str.pair ((Ty.int IntKind.i64).pair ((Ty.int IntKind.i64).pair Ty.str)))))).rose (Sp.catT (Sp.catT x8 (Sp.conjT (Sp.mkT ((x7.getD (0 : Nat) (Rose.mk ((0 : Int), (0 : Int), ByteArray.mk #[], ByteArray.mk #[], (0 : Int), (0 : Int), ByteArray.mk #[]) [])).a.1, (x7.getD (0 : Nat) (Rose.mk ((0 : Int), (0 : Int), ByteArray.mk #[], ByteArray.mk #[], (0 : Int), (0 : Int), ByteArray.mk #[]) [])).a.2.1, (x7.getD (0 : Nat) (Rose.mk ((0 : Int), (0 : Int), ByteArray.mk #[], ByteArray.mk #[], (0 : Int), (0 : Int), ByteArray.mk #[]) [])).a.2.2.1, (x7.getD (0 : Nat) (Rose.mk ((0 : Int), (0 : Int), ByteArray.mk #[], ByteArray.mk #[], (0 : Int), (0 : Int), ByteArray.mk #[]) [])).a.2.2.2.1, (x7.getD (0 : Nat) (Rose.mk ((0 : Int), (0 : Int), ByteArray.mk #[], ByteArray.mk #[], (0 : Int), (0 : Int), ByteArray.mk #[]) [])).a.2.2.2.2.1, (x7.getD (0 : Nat) (Rose.mk ((0 : Int), (0 : Int), ByteArray.mk #[], ByteArray.mk #[], (0 : Int), (0 : Int), ByteArray.mk #[]) [])).a.2.2.2.2.2.1, (x7.getD (0 : Nat) (Rose.mk ((0 : Int), (0 : Int), ByteArray.mk #[], ByteArray.mk #[], (0 : Int), (0 : Int), ByteArray.mk #[]) [])).a.2.2.2.2.2.2, (x7.getD (0 : Nat) (Rose.mk ((0 : Int), (0 : Int), ByteArray.mk #[], ByteArray.mk #[], (0 : Int), (0 : Int), ByteArray.mk #[]) [])).kids)))) (Sp.conjT (Sp.mkT ((x7.getD (1 : Nat) (Rose.mk ((0 : Int), (0 : Int), ByteArray.mk #[], ByteArray.mk #[], (0 : Int), (0 : Int), ByteArray.mk #[]) [])).a.1, (x7.getD (1 : Nat) (Rose.mk ((0 : Int), (0 : Int), ByteArray.mk #[], ByteArray.mk #[], (0 : Int), (0 : Int), ByteArray.mk #[]) [])).a.2.1, (x7.getD (1 : Nat) (Rose.mk ((0 : Int), (0 : Int), ByteArray.mk #[], ByteArray.mk #[], (0 : Int), (0 : Int), ByteArray.mk #[]) [])).a.2.2.1, (x7.getD (1 : Nat) (Rose.mk ((0 : Int), (0 : Int), ByteArray.mk #[], ByteArray.mk #[], (0 : Int), (0 : Int), ByteArray.mk #[]) [])).a.2.2.2.1, (x7.getD (1 : Nat) (Rose.mk ((0 : Int), (0 : Int), ByteArray.mk #[], ByteArray.mk #[], (0 : Int), (0 : Int), ByteArray.mk #[]) [])).a.2.2.2.2.1, (x7.getD (1 : Nat) (Rose.mk ((0 : Int), (0 : Int), ByteArray.mk #[], ByteArray.mk #[], (0 : Int), (0 : Int), ByteArray.mk #[]) [])).a.2.2.2.2.2.1, (x7.getD (1 : Nat) (Rose.mk ((0 : Int), (0 : Int), ByteArray.mk #[], ByteArray.mk #[], (0 : Int), (0 : Int), ByteArray.mk #[]) [])).a.2.2.2.2.2.2, (x7.getD (1 : Nat) (Rose.mk ((0 : Int), (0 : Int), ByteArray.mk #[], ByteArray.mk #[], (0 : Int), (0 : Int), ByteArray.mk #[]) [])).kids)))) false)]] []))))) else chk (decide ((x8.length + [Rose.mk (x0, x1, x2, x3, x4, x5, x6) x7].length) * (104 : Nat) ≤ (140737488355328 : Nat))) (some (Res.mk [XV.mk false [X.c (X0.row ((Ty.int IntKind.i64).pair ((Ty.int IntKind.i64).pair (Ty.str.pair (Ty.str.pair ((Ty.int IntKind.i64).pair ((Ty.int IntKind.i64).pair Ty.str)))))).rose (x8 ++ [Rose.mk (x0, x1, x2, x3, x4, x5, x6) x7]) false)]] [])) else chk (decide ((x8.length + [Rose.mk (x0, x1, x2, x3, x4, x5, x6) x7].length) * (104 : Nat) ≤ (140737488355328 : Nat))) (some (Res.mk [XV.mk false [X.c (X0.row ((Ty.int IntKind.i64).pair ((Ty.int IntKind.i64).pair (Ty.str.pair (Ty.str.pair ((Ty.int IntKind.i64).pair ((Ty.int IntKind.i64).pair Ty.str)))))).rose (x8 ++ [Rose.mk (x0, x1, x2, x3, x4, x5, x6) x7]) false)]] [])) := by kernel_rfl

noncomputable abbrev recAn : List REnt := [⟨e1013, fun a => Sp.rsz1 a.1.2.2.2.2.2.2.2⟩, ⟨e1013l, fun a => Sp.rsz1 a.1.2.2.2.2.2.2.2⟩]
theorem e1013_core (x0 x1 : Int) (x2 x3 : ByteArray) (x4 x5 : Int) (x6 : ByteArray) (x7 x8 : List RT) (h2 : Sp.small12 x8 (Sp.cntTs x7) = true) (h3 : Sp.andT (Sp.mkT (x0, x1, x2, x3, x4, x5, x6, x7)) = true) : abody Γ (orc (belows (Sp.rsz1 x7) recAn ++ [])) 0 n1013 (e1013.args ((x0, x1, x2, x3, x4, x5, x6, x7), x8)) = some (e1013.res ((x0, x1, x2, x3, x4, x5, x6, x7), x8)) := by
  refine (f1013_raw _ x0 x1 x2 x3 x4 x5 x6 x7 x8).trans ?_
  have e : Sp.conjT (Rose.mk (x0, x1, x2, x3, (x4, x5, x6)) x7) = bif Sp.isAnd (x0, x1, x2, x3, (x4, x5, x6)) then Sp.conj2 x7 else [Rose.mk (x0, x1, x2, x3, (x4, x5, x6)) x7] := by rw [Sp.conjT]
  refine Eq.trans ?_ (congrArg (fun z => some (rTl (Sp.catT x8 z))) e.symm)
  have h3 : Sp.andT (Rose.mk (x0, x1, x2, x3, (x4, x5, x6)) x7) = true := h3
  rw [Sp.andT] at h3
  have ea : Sp.isAnd (x0, x1, x2, x3, (x4, x5, x6)) = bif x0 == 16 then x2.toList == (ByteArray.mk #[97, 110, 100]).toList else false := rfl
  rw [ea] at h3 ⊢
  have hs : x8.length + Sp.cntTs x7 ≤ 1000000000000 := Nat.le_of_ble_eq_true h2
  rw [List.length_singleton, decide_eq_true (show (x8.length + 1) * 104 ≤ 140737488355328 by omega), chkT]
  cases hk : x0 == (16 : Int) with
  | false => rfl
  | true =>
    rw [hk, cond_true] at h3
    rw [cond_true, cond_true]
    cases hn : x2.toList == (ByteArray.mk #[97, 110, 100]).toList with
    | false => rfl
    | true =>
      rw [hn, cond_true] at h3
      obtain ⟨r, s, l, rfl, a1, a2⟩ := and2_of h3
      rw [Sp.cntTs, Sp.cntTs] at hs
      have k0 := cnt_kids r
      have k1 := cnt_kids s
      have g0 : ∀ d, (r :: s :: l : List RT).getD 0 d = r := fun _ => rfl
      have g1 : ∀ d, (r :: s :: l : List RT).getD 1 d = s := fun _ => rfl
      have b0 : (Sp.rsz1 r.kids).blt (Sp.rsz1 (r :: s :: l)) = true := blt_mk (by have := rsz1_mem (l := r :: s :: l) (r := r) (by simp); unfold Sp.rsz1 at this ⊢; omega)
      have b1 : (Sp.rsz1 s.kids).blt (Sp.rsz1 (r :: s :: l)) = true := blt_mk (by have := rsz1_mem (l := r :: s :: l) (r := s) (by simp); unfold Sp.rsz1 at this ⊢; omega)
      have p0 : decide ((0 : Int) < ((r :: s :: l : List RT).length : Int)) = true := decide_eq_true (by simp only [List.length_cons]; omega)
      have p1 : decide ((1 : Int) < ((r :: s :: l : List RT).length : Int)) = true := decide_eq_true (by simp only [List.length_cons]; omega)
      have l0 := conj_len r
      have s0 : Sp.small12 x8 (Sp.cntTs r.kids) = true := Nat.ble_eq_true_of_le (by omega)
      have s1 : Sp.small12 (Sp.catT x8 (Sp.conjT r)) (Sp.cntTs s.kids) = true := Nat.ble_eq_true_of_le (by unfold Sp.catT; rw [List.length_append]; omega)
      rw [cond_true, cond_true, p0, p1, chkT, chkT, g0, g1, mkT_fldsC, mkT_fldsC, s0, s1, a1, a2, b0, b1]
      simp only [Bool.and_self, chkT]
      rw [Sp.conj2]
      unfold Sp.catT
      rw [List.append_assoc]
theorem e1013l_core (x0 x1 : Int) (x2 x3 : ByteArray) (x4 x5 : Int) (x6 : ByteArray) (x7 x8 : List RT) (h2 : Sp.small12 x8 (Sp.cntTs x7) = true) (h3 : Sp.andT (Sp.mkT (x0, x1, x2, x3, x4, x5, x6, x7)) = true) : abody Γ (orc (belows (Sp.rsz1 x7) recAn ++ [])) 0 n1013 (e1013l.args ((x0, x1, x2, x3, x4, x5, x6, x7), x8)) = some (e1013l.res ((x0, x1, x2, x3, x4, x5, x6, x7), x8)) := by
  refine (f1013l_raw _ x0 x1 x2 x3 x4 x5 x6 x7 x8).trans ?_
  have e : Sp.conjT (Rose.mk (x0, x1, x2, x3, (x4, x5, x6)) x7) = bif Sp.isAnd (x0, x1, x2, x3, (x4, x5, x6)) then Sp.conj2 x7 else [Rose.mk (x0, x1, x2, x3, (x4, x5, x6)) x7] := by rw [Sp.conjT]
  refine Eq.trans ?_ (congrArg (fun z => some (rTl (Sp.catT x8 z))) e.symm)
  have h3 : Sp.andT (Rose.mk (x0, x1, x2, x3, (x4, x5, x6)) x7) = true := h3
  rw [Sp.andT] at h3
  have ea : Sp.isAnd (x0, x1, x2, x3, (x4, x5, x6)) = bif x0 == 16 then x2.toList == (ByteArray.mk #[97, 110, 100]).toList else false := rfl
  rw [ea] at h3 ⊢
  have hs : x8.length + Sp.cntTs x7 ≤ 1000000000000 := Nat.le_of_ble_eq_true h2
  rw [List.length_singleton, decide_eq_true (show (x8.length + 1) * 104 ≤ 140737488355328 by omega), chkT]
  cases hk : x0 == (16 : Int) with
  | false => rfl
  | true =>
    rw [hk, cond_true] at h3
    rw [cond_true, cond_true]
    cases hn : x2.toList == (ByteArray.mk #[97, 110, 100]).toList with
    | false => rfl
    | true =>
      rw [hn, cond_true] at h3
      obtain ⟨r, s, l, rfl, a1, a2⟩ := and2_of h3
      rw [Sp.cntTs, Sp.cntTs] at hs
      have k0 := cnt_kids r
      have k1 := cnt_kids s
      have g0 : ∀ d, (r :: s :: l : List RT).getD 0 d = r := fun _ => rfl
      have g1 : ∀ d, (r :: s :: l : List RT).getD 1 d = s := fun _ => rfl
      have b0 : (Sp.rsz1 r.kids).blt (Sp.rsz1 (r :: s :: l)) = true := blt_mk (by have := rsz1_mem (l := r :: s :: l) (r := r) (by simp); unfold Sp.rsz1 at this ⊢; omega)
      have b1 : (Sp.rsz1 s.kids).blt (Sp.rsz1 (r :: s :: l)) = true := blt_mk (by have := rsz1_mem (l := r :: s :: l) (r := s) (by simp); unfold Sp.rsz1 at this ⊢; omega)
      have p0 : decide ((0 : Int) < ((r :: s :: l : List RT).length : Int)) = true := decide_eq_true (by simp only [List.length_cons]; omega)
      have p1 : decide ((1 : Int) < ((r :: s :: l : List RT).length : Int)) = true := decide_eq_true (by simp only [List.length_cons]; omega)
      have l0 := conj_len r
      have s0 : Sp.small12 x8 (Sp.cntTs r.kids) = true := Nat.ble_eq_true_of_le (by omega)
      have s1 : Sp.small12 (Sp.catT x8 (Sp.conjT r)) (Sp.cntTs s.kids) = true := Nat.ble_eq_true_of_le (by unfold Sp.catT; rw [List.length_append]; omega)
      rw [cond_true, cond_true, p0, p1, chkT, chkT, g0, g1, mkT_fldsC, mkT_fldsC, s0, s1, a1, a2, b0, b1]
      simp only [Bool.and_self, chkT]
      rw [Sp.conj2]
      unfold Sp.catT
      rw [List.append_assoc]
theorem recAn_ok : ∀ r ∈ recAn, Valid PP Γ r.e := valid_recs ok recAn (rcons ⟨[], vnil, fun a ha _ => by
    obtain ⟨h2, h3⟩ := Bool.and_eq_true_iff.1 ha
    exact ⟨0, e1013_core a.1.1 a.1.2.1 a.1.2.2.1 a.1.2.2.2.1 a.1.2.2.2.2.1 a.1.2.2.2.2.2.1 a.1.2.2.2.2.2.2.1 a.1.2.2.2.2.2.2.2 a.2 h2 h3⟩⟩ (rcons ⟨[], vnil, fun a ha _ => by
    obtain ⟨h2, h3⟩ := Bool.and_eq_true_iff.1 ha
    exact ⟨0, e1013l_core a.1.1 a.1.2.1 a.1.2.2.1 a.1.2.2.2.1 a.1.2.2.2.2.1 a.1.2.2.2.2.2.1 a.1.2.2.2.2.2.2.1 a.1.2.2.2.2.2.2.2 a.2 h2 h3⟩⟩ rnil))
theorem e1013_ok : Valid PP Γ e1013 := recAn_ok _ (List.mem_cons_self)
end Go.Proofs.GR.T

set_option maxRecDepth 1000000
set_option maxHeartbeats 100000000
namespace Go.Proofs.GR.T
open Go Go.Proofs Go.Proofs.GR
def Sp.f1005_pre (x0 : Int) (x1 : Int) (x2 : ByteArray) (x3 : ByteArray) (x4 : Int) (x5 : Int) (x6 : ByteArray) (x7 : List (Rose (Int × Int × ByteArray × ByteArray × Int × Int × ByteArray))) : Bool := (Sp.f1016_pre x0 x1 x2 x3 x4 x5 x6 x7 && (bif !(Sp.f1016 x0 x1 x2 x3 x4 x5 x6 x7).1 then true else Sp.fitTs x7 && (Sp.cnt32 x7 && Sp.andT (Sp.mkT (x0, x1, x2, x3, x4, x5, x6, x7)))))
def Sp.f1005 (x0 : Int) (x1 : Int) (x2 : ByteArray) (x3 : ByteArray) (x4 : Int) (x5 : Int) (x6 : ByteArray) (x7 : List (Rose (Int × Int × ByteArray × ByteArray × Int × Int × ByteArray))) := (bif !(Sp.f1016 x0 x1 x2 x3 x4 x5 x6 x7).1 then (([], (1 : Int)), ()) else ((Sp.conjT (Sp.mkT (x0, x1, x2, x3, x4, x5, x6, x7)), (0 : Int)), ()))
noncomputable def e1005 : Ent := { f := 7, ins := [Sh.agg [C0.dat (Ty.int IntKind.i64), C0.dat (Ty.int IntKind.i64), C0.dat Ty.str, C0.dat Ty.str, C0.dat (Ty.int IntKind.i64), C0.dat (Ty.int IntKind.i64), C0.dat Ty.str, C0.dat ((Ty.int IntKind.i64).pair ((Ty.int IntKind.i64).pair (Ty.str.pair (Ty.str.pair ((Ty.int IntKind.i64).pair ((Ty.int IntKind.i64).pair Ty.str)))))).rose.slice]], outs := [Sh.one (C0.row ((Ty.int IntKind.i64).pair ((Ty.int IntKind.i64).pair (Ty.str.pair (Ty.str.pair ((Ty.int IntKind.i64).pair ((Ty.int IntKind.i64).pair Ty.str)))))).rose), Sh.one (C0.dat (Ty.int IntKind.i64))], upd := [], pre := fun a => Sp.f1005_pre a.1 a.2.1 a.2.2.1 a.2.2.2.1 a.2.2.2.2.1 a.2.2.2.2.2.1 a.2.2.2.2.2.2.1 a.2.2.2.2.2.2.2, spec := fun a => (Sp.f1005 a.1 a.2.1 a.2.2.1 a.2.2.2.1 a.2.2.2.2.1 a.2.2.2.2.2.1 a.2.2.2.2.2.2.1 a.2.2.2.2.2.2.2).1, wrt := fun a => (Sp.f1005 a.1 a.2.1 a.2.2.1 a.2.2.2.1 a.2.2.2.2.1 a.2.2.2.2.2.1 a.2.2.2.2.2.2.1 a.2.2.2.2.2.2.2).2 }
def f1005_g (v : denS [Sh.one (C0.row ((Ty.int IntKind.i64).pair ((Ty.int IntKind.i64).pair (Ty.str.pair (Ty.str.pair ((Ty.int IntKind.i64).pair ((Ty.int IntKind.i64).pair Ty.str)))))).rose), Sh.one (C0.dat (Ty.int IntKind.i64))] × denS []) : Res := ⟨mkS [Sh.one (C0.row ((Ty.int IntKind.i64).pair ((Ty.int IntKind.i64).pair (Ty.str.pair (Ty.str.pair ((Ty.int IntKind.i64).pair ((Ty.int IntKind.i64).pair Ty.str)))))).rose), Sh.one (C0.dat (Ty.int IntKind.i64))] v.1, mkU [] v.2⟩
theorem f1005_raw (x0 : Int) (x1 : Int) (x2 : ByteArray) (x3 : ByteArray) (x4 : Int) (x5 : Int) (x6 : ByteArray) (x7 : List (Rose (Int × Int × ByteArray × ByteArray × Int × Int × ByteArray))) : abody Γ (orc [e1016, e1017]) 0 7 [XV.mk true [X.c (X0.dat (Ty.int IntKind.i64) x0), X.c (X0.dat (Ty.int IntKind.i64) x1), X.c (X0.dat Ty.str x2), X.c (X0.dat Ty.str x3), X.c (X0.dat (Ty.int IntKind.i64) x4), X.c (X0.dat (Ty.int IntKind.i64) x5), X.c (X0.dat Ty.str x6), X.c (X0.dat ((Ty.int IntKind.i64).pair ((Ty.int IntKind.i64).pair (Ty.str.pair (Ty.str.pair ((Ty.int IntKind.i64).pair ((Ty.int IntKind.i64).pair Ty.str)))))).rose.slice x7)]] = chk (Sp.f1016_pre x0 x1 x2 x3 x4 x5 x6 x7) (bif !(Sp.f1016 x0 x1 x2 x3 x4 x5 x6 x7).1 then some (Res.mk [XV.mk false [X.c (X0.row ((Ty.int IntKind.i64).pair ((Ty.int IntKind.i64).pair (Ty.str.pair (Ty.str.pair ((Ty.int IntKind.i64).pair ((Ty.int IntKind.i64).pair Ty.str)))))).rose [] true)], XV.mk false [X.c (X0.dat (Ty.int IntKind.i64) (1 : Int))]] []) else chk (Sp.fitTs x7 && (Sp.cnt32 x7 && Sp.andT (Sp.mkT (x0, x1, x2, x3, x4, x5, x6, x7)))) (some (Res.mk [XV.mk false [X.c (X0.row ((Ty.int IntKind.i64).pair ((Ty.int IntKind.i64).pair (Ty.str.pair (Ty.str.pair ((Ty.int IntKind.i64).pair ((Ty.int IntKind.i64).pair Ty.str)))))).rose (Sp.conjT (Sp.mkT (x0, x1, x2, x3, x4, x5, x6, x7))) true)], XV.mk false [X.c (X0.dat (Ty.int IntKind.i64) (0 : Int))]] []))) := by kernel_rfl
theorem f1005_form (x0 : Int) (x1 : Int) (x2 : ByteArray) (x3 : ByteArray) (x4 : Int) (x5 : Int) (x6 : ByteArray) (x7 : List (Rose (Int × Int × ByteArray × ByteArray × Int × Int × ByteArray))) : (chk (Sp.f1016_pre x0 x1 x2 x3 x4 x5 x6 x7) (bif !(Sp.f1016 x0 x1 x2 x3 x4 x5 x6 x7).1 then some (Res.mk [XV.mk false [X.c (X0.row ((Ty.int IntKind.i64).pair ((Ty.int IntKind.i64).pair (Ty.str.pair (Ty.str.pair ((Ty.int IntKind.i64).pair ((Ty.int IntKind.i64).pair Ty.str)))))).rose [] true)], XV.mk false [X.c (X0.dat (Ty.int IntKind.i64) (1 : Int))]] []) else chk (Sp.fitTs x7 && (Sp.cnt32 x7 && Sp.andT (Sp.mkT (x0, x1, x2, x3, x4, x5, x6, x7)))) (some (Res.mk [XV.mk false [X.c (X0.row ((Ty.int IntKind.i64).pair ((Ty.int IntKind.i64).pair (Ty.str.pair (Ty.str.pair ((Ty.int IntKind.i64).pair ((Ty.int IntKind.i64).pair Ty.str)))))).rose (Sp.conjT (Sp.mkT (x0, x1, x2, x3, x4, x5, x6, x7))) true)], XV.mk false [X.c (X0.dat (Ty.int IntKind.i64) (0 : Int))]] [])))) = chk (Sp.f1005_pre x0 x1 x2 x3 x4 x5 x6 x7) (some (f1005_g (Sp.f1005 x0 x1 x2 x3 x4 x5 x6 x7))) := by
  unfold Sp.f1005_pre Sp.f1005
  exact (chk_step ((cond_step f1005_g ((lift_plain (rfl))) ((chk_last (rfl))))))
theorem e1005_ok : Valid PP Γ e1005 := valid_auto ok (vcons e1016_ok (vcons e1017_ok vnil)) fun a => (f1005_raw a.1 a.2.1 a.2.2.1 a.2.2.2.1 a.2.2.2.2.1 a.2.2.2.2.2.1 a.2.2.2.2.2.2.1 a.2.2.2.2.2.2.2).trans (f1005_form a.1 a.2.1 a.2.2.1 a.2.2.2.1 a.2.2.2.2.1 a.2.2.2.2.2.1 a.2.2.2.2.2.2.1 a.2.2.2.2.2.2.2)

/-- What the reference says of an expression: is it right? -/
def Sp.okT (r : RT) : Bool := bif decide (Sp.leftT r 120 1 ≥ 0) then Sp.lT r true else false
def Sp.conjP (r : RT) : Bool := bif Sp.okT r then (Sp.fitTs r.kids && (Sp.cnt32 r.kids && Sp.andT r)) else true
def Sp.conjS (r : RT) : List RT × Int := bif Sp.okT r then (Sp.conjT r, 0) else ([], 1)
noncomputable def e1003 : Ent := { f := n1003, ins := [Sh.agg aT], outs := [Sh.one (C0.row tT), Sh.one cI], upd := [], pre := fun a => Sp.conjP (Sp.mkT a), spec := fun a => Sp.conjS (Sp.mkT a), wrt := fun _ => () }
noncomputable def f1003_L0 (n m0 : Nat) (y0 : Int) (y1 : List (Rose (Int × Int × ByteArray × ByteArray × Int × Int × ByteArray))) (y2 : List (Rose (Int × Int × ByteArray × ByteArray × Int × Int × ByteArray))) : Option Res := loopAt Γ (orc [e1012, e1013, e1014]) n (5 : Nat) (0 : Nat) [] [Pth.r, Pth.r, Pth.r, Pth.r, Pth.l, Pth.r, Pth.b] m0 (St.mk [Slot.nix, Slot.nix, Slot.nix, Slot.nix, Slot.val (Val.one (Cell.own (0 : Nat))), Slot.val (Val.one (Cell.own (1 : Nat))), Slot.val (Val.one (Cell.dat (Ty.int IntKind.i64) y0)), Slot.nix, Slot.nix, Slot.nix, Slot.nix, Slot.nix, Slot.nix, Slot.nix, Slot.nix, Slot.nix, Slot.nix, Slot.nix, Slot.nix, Slot.nix, Slot.nix, Slot.nix, Slot.nix, Slot.nix, Slot.nix, Slot.nix, Slot.nix, Slot.nix, Slot.nix, Slot.nix] [AObj.row ((Ty.int IntKind.i64).pair ((Ty.int IntKind.i64).pair (Ty.str.pair (Ty.str.pair ((Ty.int IntKind.i64).pair ((Ty.int IntKind.i64).pair Ty.str)))))).rose y1 false, AObj.row ((Ty.int IntKind.i64).pair ((Ty.int IntKind.i64).pair (Ty.str.pair (Ty.str.pair ((Ty.int IntKind.i64).pair ((Ty.int IntKind.i64).pair Ty.str)))))).rose y2 true])
theorem f1003_L0_step (n m0 : Nat) (y0 : Int) (y1 : List (Rose (Int × Int × ByteArray × ByteArray × Int × Int × ByteArray))) (y2 : List (Rose (Int × Int × ByteArray × ByteArray × Int × Int × ByteArray))) : f1003_L0 n (m0 + 1) y0 y1 y2 = bif decide (y0 < (↑y1.length : Int)) then chk (decide ((0 : Int) ≤ y0) && decide (y0 < (↑y1.length : Int))) (chk (Sp.fitTs (y1.getD y0.toNat (Rose.mk ((0 : Int), (0 : Int), ByteArray.mk #[], ByteArray.mk #[], (0 : Int), (0 : Int), ByteArray.mk #[]) [])).kids) (chk (decide ((y2.length + [Rose.mk ((y1.getD y0.toNat (Rose.mk ((0 : Int), (0 : Int), ByteArray.mk #[], ByteArray.mk #[], (0 : Int), (0 : Int), ByteArray.mk #[]) [])).a.1, (y1.getD y0.toNat (Rose.mk ((0 : Int), (0 : Int), ByteArray.mk #[], ByteArray.mk #[], (0 : Int), (0 : Int), ByteArray.mk #[]) [])).a.2.1, (y1.getD y0.toNat (Rose.mk ((0 : Int), (0 : Int), ByteArray.mk #[], ByteArray.mk #[], (0 : Int), (0 : Int), ByteArray.mk #[]) [])).a.2.2.1, (y1.getD y0.toNat (Rose.mk ((0 : Int), (0 : Int), ByteArray.mk #[], ByteArray.mk #[], (0 : Int), (0 : Int), ByteArray.mk #[]) [])).a.2.2.2.1, (y1.getD y0.toNat (Rose.mk ((0 : Int), (0 : Int), ByteArray.mk #[], ByteArray.mk #[], (0 : Int), (0 : Int), ByteArray.mk #[]) [])).a.2.2.2.2.1, (y1.getD y0.toNat (Rose.mk ((0 : Int), (0 : Int), ByteArray.mk #[], ByteArray.mk #[], (0 : Int), (0 : Int), ByteArray.mk #[]) [])).a.2.2.2.2.2.1, (y1.getD y0.toNat (Rose.mk ((0 : Int), (0 : Int), ByteArray.mk #[], ByteArray.mk #[], (0 : Int), (0 : Int), ByteArray.mk #[]) [])).a.2.2.2.2.2.2) (y1.getD y0.toNat (Rose.mk ((0 : Int), (0 : Int), ByteArray.mk #[], ByteArray.mk #[], (0 : Int), (0 : Int), ByteArray.mk #[]) [])).kids].length) * (104 : Nat) ≤ (140737488355328 : Nat))) (f1003_L0 n m0 (IntKind.i64.wrap (y0 + (1 : Int))) y1 (y2 ++ [Rose.mk ((y1.getD y0.toNat (Rose.mk ((0 : Int), (0 : Int), ByteArray.mk #[], ByteArray.mk #[], (0 : Int), (0 : Int), ByteArray.mk #[]) [])).a.1, (y1.getD y0.toNat (Rose.mk ((0 : Int), (0 : Int), ByteArray.mk #[], ByteArray.mk #[], (0 : Int), (0 : Int), ByteArray.mk #[]) [])).a.2.1, (y1.getD y0.toNat (Rose.mk ((0 : Int), (0 : Int), ByteArray.mk #[], ByteArray.mk #[], (0 : Int), (0 : Int), ByteArray.mk #[]) [])).a.2.2.1, (y1.getD y0.toNat (Rose.mk ((0 : Int), (0 : Int), ByteArray.mk #[], ByteArray.mk #[], (0 : Int), (0 : Int), ByteArray.mk #[]) [])).a.2.2.2.1, (y1.getD y0.toNat (Rose.mk ((0 : Int), (0 : Int), ByteArray.mk #[], ByteArray.mk #[], (0 : Int), (0 : Int), ByteArray.mk #[]) [])).a.2.2.2.2.1, (y1.getD y0.toNat (Rose.mk ((0 : Int), (0 : Int), ByteArray.mk #[], ByteArray.mk #[], (0 : Int), (0 : Int), ByteArray.mk #[]) [])).a.2.2.2.2.2.1, (y1.getD y0.toNat (Rose.mk ((0 : Int), (0 : Int), ByteArray.mk #[], ByteArray.mk #[], (0 : Int), (0 : Int), ByteArray.mk #[]) [])).a.2.2.2.2.2.2) (y1.getD y0.toNat (Rose.mk ((0 : Int), (0 : Int), ByteArray.mk #[], ByteArray.mk #[], (0 : Int), (0 : Int), ByteArray.mk #[]) [])).kids])))) else some (Res.mk [XV.mk false [X.c (X0.row ((Ty.int IntKind.i64).pair ((Ty.int IntKind.i64).pair (Ty.str.pair (Ty.str.pair ((Ty.int IntKind.i64).pair ((Ty.int IntKind.i64).pair Ty.str)))))).rose y2 true)], XV.mk false [X.c (X0.dat (Ty.int IntKind.i64) (0 : Int))]] []) := by kernel_rfl
theorem f1003_raw (n : Nat) (x0 : Int) (x1 : Int) (x2 : ByteArray) (x3 : ByteArray) (x4 : Int) (x5 : Int) (x6 : ByteArray) (x7 : List (Rose (Int × Int × ByteArray × ByteArray × Int × Int × ByteArray))) : abody Γ (orc [e1012, e1013, e1014]) n 5 [XV.mk true [X.c (X0.dat (Ty.int IntKind.i64) x0), X.c (X0.dat (Ty.int IntKind.i64) x1), X.c (X0.dat Ty.str x2), X.c (X0.dat Ty.str x3), X.c (X0.dat (Ty.int IntKind.i64) x4), X.c (X0.dat (Ty.int IntKind.i64) x5), X.c (X0.dat Ty.str x6), X.c (X0.dat ((Ty.int IntKind.i64).pair ((Ty.int IntKind.i64).pair (Ty.str.pair (Ty.str.pair ((Ty.int IntKind.i64).pair ((Ty.int IntKind.i64).pair Ty.str)))))).rose.slice x7)]] = bif !(Sp.f1012 x0 x1 x2 x3 x4 x5 x6 x7).1 then some (Res.mk [XV.mk false [X.c (X0.row ((Ty.int IntKind.i64).pair ((Ty.int IntKind.i64).pair (Ty.str.pair (Ty.str.pair ((Ty.int IntKind.i64).pair ((Ty.int IntKind.i64).pair Ty.str)))))).rose [] true)], XV.mk false [X.c (X0.dat (Ty.int IntKind.i64) (1 : Int))]] []) else chk (Sp.small12 [] (Sp.cntTs x7) && Sp.andT (Sp.mkT (x0, x1, x2, x3, x4, x5, x6, x7))) (f1003_L0 n n (0 : Int) (Sp.catT [] (Sp.conjT (Sp.mkT (x0, x1, x2, x3, x4, x5, x6, x7)))) []) := by kernel_rfl

theorem fitTs_conj : ∀ r : RT, Sp.fitTs r.kids = true → ∀ s ∈ Sp.conjT r, Sp.fitTs s.kids = true :=
  Rose.ind fun a ks ih h s hs => by
    have h : Sp.fitTs ks = true := h
    rw [Sp.conjT] at hs
    cases hA : Sp.isAnd a with
    | false =>
      rw [hA, cond_false, List.mem_singleton] at hs
      rw [hs]; exact h
    | true =>
      rw [hA, cond_true] at hs
      match ks, ih, h, hs with
      | [], _, _, hs => rw [Sp.conj2] at hs; cases hs; all_goals simp
      | [r], _, _, hs => rw [Sp.conj2] at hs; cases hs; all_goals simp
      | r :: t :: l, ih, h, hs =>
        obtain ⟨_, h2⟩ := fitTs_of h
        rw [Sp.conj2, List.mem_append] at hs
        rcases hs with hs | hs
        · exact ih r (by simp) (h2 r (by simp)) s hs
        · exact ih t (by simp) (h2 t (by simp)) s hs
abbrev rCj (l : List RT) : Res := Res.mk [XV.mk false [X.c (X0.row tT l true)], XV.mk false [X.c (X0.dat tI (0 : Int))]] []
theorem room104'' {n : Nat} (h : n ≤ 1000000000001) : decide ((n + 1) * 104 ≤ 140737488355328) = true := decide_eq_true (by omega)
theorem e1003_core (x0 x1 : Int) (x2 x3 : ByteArray) (x4 x5 : Int) (x6 : ByteArray) (x7 : List RT) (h : Sp.conjP (Sp.mkT (x0, x1, x2, x3, x4, x5, x6, x7)) = true) : ∃ n, abody Γ (orc [e1012, e1013, e1014]) n n1003 (e1003.args (x0, x1, x2, x3, x4, x5, x6, x7)) = some (e1003.res (x0, x1, x2, x3, x4, x5, x6, x7)) := by
  have hl := conj_len (Sp.mkT (x0, x1, x2, x3, x4, x5, x6, x7))
  have hk := cnt_kids (Sp.mkT (x0, x1, x2, x3, x4, x5, x6, x7))
  have hk : 1 + Sp.cntTs x7 = Sp.cntT (Sp.mkT (x0, x1, x2, x3, x4, x5, x6, x7)) := hk
  refine ⟨(Sp.conjT (Sp.mkT (x0, x1, x2, x3, x4, x5, x6, x7))).length + 1, (f1003_raw _ x0 x1 x2 x3 x4 x5 x6 x7).trans ?_⟩
  have e : (Sp.f1012 x0 x1 x2 x3 x4 x5 x6 x7).1 = Sp.okT (Sp.mkT (x0, x1, x2, x3, x4, x5, x6, x7)) := by
    unfold Sp.f1012 Sp.okT
    cases decide (Sp.leftT (Sp.mkT (x0, x1, x2, x3, x4, x5, x6, x7)) 120 1 ≥ 0) <;> rfl
  rw [e]
  have eR : some (e1003.res (x0, x1, x2, x3, x4, x5, x6, x7)) = bif Sp.okT (Sp.mkT (x0, x1, x2, x3, x4, x5, x6, x7)) then some (rCj (Sp.conjT (Sp.mkT (x0, x1, x2, x3, x4, x5, x6, x7)))) else some (Res.mk [XV.mk false [X.c (X0.row tT [] true)], XV.mk false [X.c (X0.dat tI (1 : Int))]] []) := by
    show some (Res.mk [XV.mk false [X.c (X0.row tT (Sp.conjS (Sp.mkT (x0, x1, x2, x3, x4, x5, x6, x7))).1 true)], XV.mk false [X.c (X0.dat tI (Sp.conjS (Sp.mkT (x0, x1, x2, x3, x4, x5, x6, x7))).2)]] []) = _
    unfold Sp.conjS
    cases Sp.okT (Sp.mkT (x0, x1, x2, x3, x4, x5, x6, x7)) <;> rfl
  rw [eR]
  clear eR e
  unfold Sp.conjP at h
  revert h hl hk
  cases Sp.okT (Sp.mkT (x0, x1, x2, x3, x4, x5, x6, x7)) with
  | false => intro _ _ _; rfl
  | true =>
    intro h hl hk
    rw [cond_true, Bool.and_eq_true_iff, Bool.and_eq_true_iff] at h
    obtain ⟨h1, h2, h3⟩ := h
    have h1 : Sp.fitTs x7 = true := h1
    have h2 : Sp.cnt32 x7 = true := h2
    have c0 := cnt32_of h2
    have f0 := fitTs_conj (Sp.mkT (x0, x1, x2, x3, x4, x5, x6, x7)) h1
    have s0 : Sp.small12 [] (Sp.cntTs x7) = true := Nat.ble_eq_true_of_le (by rw [List.length_nil]; omega)
    rw [Bool.not_true, cond_false, cond_true, s0, h3, Bool.and_self, chkT]
    have hl2 : (Sp.conjT (Sp.mkT (x0, x1, x2, x3, x4, x5, x6, x7))).length ≤ 1000000000001 := by omega
    show f1003_L0 _ _ 0 ([] ++ Sp.conjT (Sp.mkT (x0, x1, x2, x3, x4, x5, x6, x7))) [] = _
    rw [List.nil_append]
    revert f0 hl2
    generalize Sp.conjT (Sp.mkT (x0, x1, x2, x3, x4, x5, x6, x7)) = l
    intro f0 hl2
    have := cat_loop (R := rCj) l (fun m k acc => f1003_L0 (l.length + 1) m k l acc) (fun m k acc hk => by
      show f1003_L0 _ _ _ _ _ = _
      rw [f1003_L0_step, nat_ge hk, cond_false]) (fun m k acc hk ha => by
      show f1003_L0 _ _ _ _ _ = _
      rw [f1003_L0_step, nat_lt hk, cond_true, guard0, chkT, getD_nat l k _ hk, next64 hk (by omega), f0 _ (List.getElem_mem hk), chkT, List.length_singleton, ha, room104'' (by omega), chkT]
      show f1003_L0 _ _ _ _ (acc ++ [Sp.mkT (Sp.unT l[k])]) = _
      rw [mkT_un]) l.length 0 (l.length + 1) [] (Nat.zero_add _) rfl (Nat.lt_succ_self _)
    exact this
theorem e1003_ok : Valid PP Γ e1003 := valid_of ok (vcons e1012_ok (vcons e1013_ok (vcons e1014_ok vnil))) fun a ha => e1003_core a.1 a.2.1 a.2.2.1 a.2.2.2.1 a.2.2.2.2.1 a.2.2.2.2.2.1 a.2.2.2.2.2.2.1 a.2.2.2.2.2.2.2 ha
def Sp.f1001_pre (x0 : Int) (x1 : Int) (x2 : ByteArray) (x3 : ByteArray) (x4 : Int) (x5 : Int) (x6 : ByteArray) (x7 : List (Rose (Int × Int × ByteArray × ByteArray × Int × Int × ByteArray))) : Bool := (bif decide (Sp.szT (Sp.mkT (x0, x1, x2, x3, x4, x5, x6, x7)) (1048576 : Int) < (0 : Int)) then true else (Sp.fitTs x7 && (Sp.conjP (Sp.mkT (x0, x1, x2, x3, x4, x5, x6, x7)) && (Sp.fitTs x7 && (Sp.f1005_pre x0 x1 x2 x3 x4 x5 x6 x7 && (bif !Sp.eqTs (Sp.f1005 x0 x1 x2 x3 x4 x5 x6 x7).1.1 (Sp.conjS (Sp.mkT (x0, x1, x2, x3, x4, x5, x6, x7))).1 then true else (bif (Sp.f1005 x0 x1 x2 x3 x4 x5 x6 x7).1.2 != (Sp.conjS (Sp.mkT (x0, x1, x2, x3, x4, x5, x6, x7))).2 then true else (Sp.fitTs x7 && (bif !Sp.eqT (Sp.mkT (x0, x1, x2, x3, x4, x5, x6, x7)) (Sp.mkT (x0, x1, x2, x3, x4, x5, x6, x7)) then true else (Sp.f1008_pre x0 x1 x2 x3 x4 x5 x6 x7 (1 : Int) && (bif decide ((Sp.f1008 x0 x1 x2 x3 x4 x5 x6 x7 (1 : Int)).1 < (0 : Int)) then true else (bif !Sp.eqTs (Sp.f1005 x0 x1 x2 x3 x4 x5 x6 x7).1.1 (Sp.conjS (Sp.mkT (x0, x1, x2, x3, x4, x5, x6, x7))).1 then true else (bif (Sp.f1005 x0 x1 x2 x3 x4 x5 x6 x7).1.2 != (Sp.conjS (Sp.mkT (x0, x1, x2, x3, x4, x5, x6, x7))).2 then true else (Sp.smallTs (Sp.f1005 x0 x1 x2 x3 x4 x5 x6 x7).1.1 (1 : Int) && (Sp.smallTs (Sp.markTs (Sp.f1005 x0 x1 x2 x3 x4 x5 x6 x7).1.1 (1 : Int)) (1 : Int) && (bif decide (Sp.heldTs (Sp.markTs (Sp.f1005 x0 x1 x2 x3 x4 x5 x6 x7).1.1 (1 : Int)) (1 : Int) < (0 : Int)) then true else (bif Sp.heldTs (Sp.markTs (Sp.f1005 x0 x1 x2 x3 x4 x5 x6 x7).1.1 (1 : Int)) (1 : Int) != Sp.addTs (Sp.f1005 x0 x1 x2 x3 x4 x5 x6 x7).1.1 (1 : Int) then true else (Sp.fitTs x7 && (Sp.f1005_pre x0 x1 x2 x3 x4 x5 x6 x7 && (bif !Sp.eqTs (Sp.f1005 x0 x1 x2 x3 x4 x5 x6 x7).1.1 (Sp.conjS (Sp.mkT (x0, x1, x2, x3, x4, x5, x6, x7))).1 then true else (bif (Sp.f1005 x0 x1 x2 x3 x4 x5 x6 x7).1.2 != (Sp.conjS (Sp.mkT (x0, x1, x2, x3, x4, x5, x6, x7))).2 then true else Sp.smallTs (Sp.markTs (Sp.f1005 x0 x1 x2 x3 x4 x5 x6 x7).1.1 (1 : Int)) (1 : Int))))))))))))))))))))))
def Sp.f1001 (x0 : Int) (x1 : Int) (x2 : ByteArray) (x3 : ByteArray) (x4 : Int) (x5 : Int) (x6 : ByteArray) (x7 : List (Rose (Int × Int × ByteArray × ByteArray × Int × Int × ByteArray))) := (bif decide (Sp.szT (Sp.mkT (x0, x1, x2, x3, x4, x5, x6, x7)) (1048576 : Int) < (0 : Int)) then (true, ()) else (bif !Sp.eqTs (Sp.f1005 x0 x1 x2 x3 x4 x5 x6 x7).1.1 (Sp.conjS (Sp.mkT (x0, x1, x2, x3, x4, x5, x6, x7))).1 then (false, ()) else (bif (Sp.f1005 x0 x1 x2 x3 x4 x5 x6 x7).1.2 != (Sp.conjS (Sp.mkT (x0, x1, x2, x3, x4, x5, x6, x7))).2 then (false, ()) else (bif !Sp.eqT (Sp.mkT (x0, x1, x2, x3, x4, x5, x6, x7)) (Sp.mkT (x0, x1, x2, x3, x4, x5, x6, x7)) then (false, ()) else (bif decide ((Sp.f1008 x0 x1 x2 x3 x4 x5 x6 x7 (1 : Int)).1 < (0 : Int)) then (false, ()) else (bif !Sp.eqTs (Sp.f1005 x0 x1 x2 x3 x4 x5 x6 x7).1.1 (Sp.conjS (Sp.mkT (x0, x1, x2, x3, x4, x5, x6, x7))).1 then (false, ()) else (bif (Sp.f1005 x0 x1 x2 x3 x4 x5 x6 x7).1.2 != (Sp.conjS (Sp.mkT (x0, x1, x2, x3, x4, x5, x6, x7))).2 then (false, ()) else (bif decide (Sp.heldTs (Sp.markTs (Sp.f1005 x0 x1 x2 x3 x4 x5 x6 x7).1.1 (1 : Int)) (1 : Int) < (0 : Int)) then (false, ()) else (bif Sp.heldTs (Sp.markTs (Sp.f1005 x0 x1 x2 x3 x4 x5 x6 x7).1.1 (1 : Int)) (1 : Int) != Sp.addTs (Sp.f1005 x0 x1 x2 x3 x4 x5 x6 x7).1.1 (1 : Int) then (false, ()) else (bif !Sp.eqTs (Sp.f1005 x0 x1 x2 x3 x4 x5 x6 x7).1.1 (Sp.conjS (Sp.mkT (x0, x1, x2, x3, x4, x5, x6, x7))).1 then (false, ()) else (bif (Sp.f1005 x0 x1 x2 x3 x4 x5 x6 x7).1.2 != (Sp.conjS (Sp.mkT (x0, x1, x2, x3, x4, x5, x6, x7))).2 then (false, ()) else (bif decide (Sp.heldTs (Sp.markTs (Sp.f1005 x0 x1 x2 x3 x4 x5 x6 x7).1.1 (1 : Int)) (1 : Int) < (0 : Int)) then (false, ()) else (bif Sp.heldTs (Sp.markTs (Sp.f1005 x0 x1 x2 x3 x4 x5 x6 x7).1.1 (1 : Int)) (1 : Int) != Sp.addTs (Sp.f1005 x0 x1 x2 x3 x4 x5 x6 x7).1.1 (1 : Int) then (false, ()) else (true, ()))))))))))))))
noncomputable def e1001 : Ent := { f := 3, ins := [Sh.agg [C0.dat (Ty.int IntKind.i64), C0.dat (Ty.int IntKind.i64), C0.dat Ty.str, C0.dat Ty.str, C0.dat (Ty.int IntKind.i64), C0.dat (Ty.int IntKind.i64), C0.dat Ty.str, C0.dat ((Ty.int IntKind.i64).pair ((Ty.int IntKind.i64).pair (Ty.str.pair (Ty.str.pair ((Ty.int IntKind.i64).pair ((Ty.int IntKind.i64).pair Ty.str)))))).rose.slice]], outs := [Sh.one (C0.dat Ty.bool)], upd := [], pre := fun a => Sp.f1001_pre a.1 a.2.1 a.2.2.1 a.2.2.2.1 a.2.2.2.2.1 a.2.2.2.2.2.1 a.2.2.2.2.2.2.1 a.2.2.2.2.2.2.2, spec := fun a => (Sp.f1001 a.1 a.2.1 a.2.2.1 a.2.2.2.1 a.2.2.2.2.1 a.2.2.2.2.2.1 a.2.2.2.2.2.2.1 a.2.2.2.2.2.2.2).1, wrt := fun a => (Sp.f1001 a.1 a.2.1 a.2.2.1 a.2.2.2.1 a.2.2.2.2.1 a.2.2.2.2.2.1 a.2.2.2.2.2.2.1 a.2.2.2.2.2.2.2).2 }
def f1001_g (v : denS [Sh.one (C0.dat Ty.bool)] × denS []) : Res := ⟨mkS [Sh.one (C0.dat Ty.bool)] v.1, mkU [] v.2⟩
theorem f1001_raw (x0 : Int) (x1 : Int) (x2 : ByteArray) (x3 : ByteArray) (x4 : Int) (x5 : Int) (x6 : ByteArray) (x7 : List (Rose (Int × Int × ByteArray × ByteArray × Int × Int × ByteArray))) : abody Γ (orc [e1002, e1004, e1003, e1005, e1006, e1007, e1008, e1009, e1010]) 0 3 [XV.mk true [X.c (X0.dat (Ty.int IntKind.i64) x0), X.c (X0.dat (Ty.int IntKind.i64) x1), X.c (X0.dat Ty.str x2), X.c (X0.dat Ty.str x3), X.c (X0.dat (Ty.int IntKind.i64) x4), X.c (X0.dat (Ty.int IntKind.i64) x5), X.c (X0.dat Ty.str x6), X.c (X0.dat ((Ty.int IntKind.i64).pair ((Ty.int IntKind.i64).pair (Ty.str.pair (Ty.str.pair ((Ty.int IntKind.i64).pair ((Ty.int IntKind.i64).pair Ty.str)))))).rose.slice x7)]] = bif decide (Sp.szT (Sp.mkT (x0, x1, x2, x3, x4, x5, x6, x7)) (1048576 : Int) < (0 : Int)) then some (Res.mk [XV.mk false [X.c (X0.dat Ty.bool true)]] []) else chk (Sp.fitTs x7) (chk (Sp.conjP (Sp.mkT (x0, x1, x2, x3, x4, x5, x6, x7))) (chk (Sp.fitTs x7) (chk (Sp.f1005_pre x0 x1 x2 x3 x4 x5 x6 x7) (bif !Sp.eqTs (Sp.f1005 x0 x1 x2 x3 x4 x5 x6 x7).1.1 (Sp.conjS (Sp.mkT (x0, x1, x2, x3, x4, x5, x6, x7))).1 then some (Res.mk [XV.mk false [X.c (X0.dat Ty.bool false)]] []) else bif (Sp.f1005 x0 x1 x2 x3 x4 x5 x6 x7).1.2 != (Sp.conjS (Sp.mkT (x0, x1, x2, x3, x4, x5, x6, x7))).2 then some (Res.mk [XV.mk false [X.c (X0.dat Ty.bool false)]] []) else chk (Sp.fitTs x7) (bif !Sp.eqT (Sp.mkT (x0, x1, x2, x3, x4, x5, x6, x7)) (Sp.mkT (x0, x1, x2, x3, x4, x5, x6, x7)) then some (Res.mk [XV.mk false [X.c (X0.dat Ty.bool false)]] []) else chk (Sp.f1008_pre x0 x1 x2 x3 x4 x5 x6 x7 (1 : Int)) (bif decide ((Sp.f1008 x0 x1 x2 x3 x4 x5 x6 x7 (1 : Int)).1 < (0 : Int)) then some (Res.mk [XV.mk false [X.c (X0.dat Ty.bool false)]] []) else bif !Sp.eqTs (Sp.f1005 x0 x1 x2 x3 x4 x5 x6 x7).1.1 (Sp.conjS (Sp.mkT (x0, x1, x2, x3, x4, x5, x6, x7))).1 then some (Res.mk [XV.mk false [X.c (X0.dat Ty.bool false)]] []) else bif (Sp.f1005 x0 x1 x2 x3 x4 x5 x6 x7).1.2 != (Sp.conjS (Sp.mkT (x0, x1, x2, x3, x4, x5, x6, x7))).2 then some (Res.mk [XV.mk false [X.c (X0.dat Ty.bool false)]] []) else chk (Sp.smallTs (Sp.f1005 x0 x1 x2 x3 x4 x5 x6 x7).1.1 (1 : Int)) (chk (Sp.smallTs (Sp.markTs (Sp.f1005 x0 x1 x2 x3 x4 x5 x6 x7).1.1 (1 : Int)) (1 : Int)) (bif decide (Sp.heldTs (Sp.markTs (Sp.f1005 x0 x1 x2 x3 x4 x5 x6 x7).1.1 (1 : Int)) (1 : Int) < (0 : Int)) then some (Res.mk [XV.mk false [X.c (X0.dat Ty.bool false)]] []) else bif Sp.heldTs (Sp.markTs (Sp.f1005 x0 x1 x2 x3 x4 x5 x6 x7).1.1 (1 : Int)) (1 : Int) != Sp.addTs (Sp.f1005 x0 x1 x2 x3 x4 x5 x6 x7).1.1 (1 : Int) then some (Res.mk [XV.mk false [X.c (X0.dat Ty.bool false)]] []) else chk (Sp.fitTs x7) (chk (Sp.f1005_pre x0 x1 x2 x3 x4 x5 x6 x7) (bif !Sp.eqTs (Sp.f1005 x0 x1 x2 x3 x4 x5 x6 x7).1.1 (Sp.conjS (Sp.mkT (x0, x1, x2, x3, x4, x5, x6, x7))).1 then some (Res.mk [XV.mk false [X.c (X0.dat Ty.bool false)]] []) else bif (Sp.f1005 x0 x1 x2 x3 x4 x5 x6 x7).1.2 != (Sp.conjS (Sp.mkT (x0, x1, x2, x3, x4, x5, x6, x7))).2 then some (Res.mk [XV.mk false [X.c (X0.dat Ty.bool false)]] []) else chk (Sp.smallTs (Sp.markTs (Sp.f1005 x0 x1 x2 x3 x4 x5 x6 x7).1.1 (1 : Int)) (1 : Int)) (bif decide (Sp.heldTs (Sp.markTs (Sp.f1005 x0 x1 x2 x3 x4 x5 x6 x7).1.1 (1 : Int)) (1 : Int) < (0 : Int)) then some (Res.mk [XV.mk false [X.c (X0.dat Ty.bool false)]] []) else bif Sp.heldTs (Sp.markTs (Sp.f1005 x0 x1 x2 x3 x4 x5 x6 x7).1.1 (1 : Int)) (1 : Int) != Sp.addTs (Sp.f1005 x0 x1 x2 x3 x4 x5 x6 x7).1.1 (1 : Int) then some (Res.mk [XV.mk false [X.c (X0.dat Ty.bool false)]] []) else some (Res.mk [XV.mk false [X.c (X0.dat Ty.bool true)]] [])))))))))))) := by kernel_rfl
theorem f1001_form (x0 : Int) (x1 : Int) (x2 : ByteArray) (x3 : ByteArray) (x4 : Int) (x5 : Int) (x6 : ByteArray) (x7 : List (Rose (Int × Int × ByteArray × ByteArray × Int × Int × ByteArray))) : (bif decide (Sp.szT (Sp.mkT (x0, x1, x2, x3, x4, x5, x6, x7)) (1048576 : Int) < (0 : Int)) then some (Res.mk [XV.mk false [X.c (X0.dat Ty.bool true)]] []) else chk (Sp.fitTs x7) (chk (Sp.conjP (Sp.mkT (x0, x1, x2, x3, x4, x5, x6, x7))) (chk (Sp.fitTs x7) (chk (Sp.f1005_pre x0 x1 x2 x3 x4 x5 x6 x7) (bif !Sp.eqTs (Sp.f1005 x0 x1 x2 x3 x4 x5 x6 x7).1.1 (Sp.conjS (Sp.mkT (x0, x1, x2, x3, x4, x5, x6, x7))).1 then some (Res.mk [XV.mk false [X.c (X0.dat Ty.bool false)]] []) else bif (Sp.f1005 x0 x1 x2 x3 x4 x5 x6 x7).1.2 != (Sp.conjS (Sp.mkT (x0, x1, x2, x3, x4, x5, x6, x7))).2 then some (Res.mk [XV.mk false [X.c (X0.dat Ty.bool false)]] []) else chk (Sp.fitTs x7) (bif !Sp.eqT (Sp.mkT (x0, x1, x2, x3, x4, x5, x6, x7)) (Sp.mkT (x0, x1, x2, x3, x4, x5, x6, x7)) then some (Res.mk [XV.mk false [X.c (X0.dat Ty.bool false)]] []) else chk (Sp.f1008_pre x0 x1 x2 x3 x4 x5 x6 x7 (1 : Int)) (bif decide ((Sp.f1008 x0 x1 x2 x3 x4 x5 x6 x7 (1 : Int)).1 < (0 : Int)) then some (Res.mk [XV.mk false [X.c (X0.dat Ty.bool false)]] []) else bif !Sp.eqTs (Sp.f1005 x0 x1 x2 x3 x4 x5 x6 x7).1.1 (Sp.conjS (Sp.mkT (x0, x1, x2, x3, x4, x5, x6, x7))).1 then some (Res.mk [XV.mk false [X.c (X0.dat Ty.bool false)]] []) else bif (Sp.f1005 x0 x1 x2 x3 x4 x5 x6 x7).1.2 != (Sp.conjS (Sp.mkT (x0, x1, x2, x3, x4, x5, x6, x7))).2 then some (Res.mk [XV.mk false [X.c (X0.dat Ty.bool false)]] []) else chk (Sp.smallTs (Sp.f1005 x0 x1 x2 x3 x4 x5 x6 x7).1.1 (1 : Int)) (chk (Sp.smallTs (Sp.markTs (Sp.f1005 x0 x1 x2 x3 x4 x5 x6 x7).1.1 (1 : Int)) (1 : Int)) (bif decide (Sp.heldTs (Sp.markTs (Sp.f1005 x0 x1 x2 x3 x4 x5 x6 x7).1.1 (1 : Int)) (1 : Int) < (0 : Int)) then some (Res.mk [XV.mk false [X.c (X0.dat Ty.bool false)]] []) else bif Sp.heldTs (Sp.markTs (Sp.f1005 x0 x1 x2 x3 x4 x5 x6 x7).1.1 (1 : Int)) (1 : Int) != Sp.addTs (Sp.f1005 x0 x1 x2 x3 x4 x5 x6 x7).1.1 (1 : Int) then some (Res.mk [XV.mk false [X.c (X0.dat Ty.bool false)]] []) else chk (Sp.fitTs x7) (chk (Sp.f1005_pre x0 x1 x2 x3 x4 x5 x6 x7) (bif !Sp.eqTs (Sp.f1005 x0 x1 x2 x3 x4 x5 x6 x7).1.1 (Sp.conjS (Sp.mkT (x0, x1, x2, x3, x4, x5, x6, x7))).1 then some (Res.mk [XV.mk false [X.c (X0.dat Ty.bool false)]] []) else bif (Sp.f1005 x0 x1 x2 x3 x4 x5 x6 x7).1.2 != (Sp.conjS (Sp.mkT (x0, x1, x2, x3, x4, x5, x6, x7))).2 then some (Res.mk [XV.mk false [X.c (X0.dat Ty.bool false)]] []) else chk (Sp.smallTs (Sp.markTs (Sp.f1005 x0 x1 x2 x3 x4 x5 x6 x7).1.1 (1 : Int)) (1 : Int)) (bif decide (Sp.heldTs (Sp.markTs (Sp.f1005 x0 x1 x2 x3 x4 x5 x6 x7).1.1 (1 : Int)) (1 : Int) < (0 : Int)) then some (Res.mk [XV.mk false [X.c (X0.dat Ty.bool false)]] []) else bif Sp.heldTs (Sp.markTs (Sp.f1005 x0 x1 x2 x3 x4 x5 x6 x7).1.1 (1 : Int)) (1 : Int) != Sp.addTs (Sp.f1005 x0 x1 x2 x3 x4 x5 x6 x7).1.1 (1 : Int) then some (Res.mk [XV.mk false [X.c (X0.dat Ty.bool false)]] []) else some (Res.mk [XV.mk false [X.c (X0.dat Ty.bool true)]] []))))))))))))) = chk (Sp.f1001_pre x0 x1 x2 x3 x4 x5 x6 x7) (some (f1001_g (Sp.f1001 x0 x1 x2 x3 x4 x5 x6 x7))) := by
  unfold Sp.f1001_pre Sp.f1001
  exact (cond_step f1001_g ((lift_plain (rfl))) ((chk_step ((chk_step ((chk_step ((chk_step ((cond_step f1001_g ((lift_plain (rfl))) ((cond_step f1001_g ((lift_plain (rfl))) ((chk_step ((cond_step f1001_g ((lift_plain (rfl))) ((chk_step ((cond_step f1001_g ((lift_plain (rfl))) ((cond_step f1001_g ((lift_plain (rfl))) ((cond_step f1001_g ((lift_plain (rfl))) ((chk_step ((chk_step ((cond_step f1001_g ((lift_plain (rfl))) ((cond_step f1001_g ((lift_plain (rfl))) ((chk_step ((chk_step ((cond_step f1001_g ((lift_plain (rfl))) ((cond_step f1001_g ((lift_plain (rfl))) ((chk_last ((cond_plain f1001_g (rfl) ((cond_plain f1001_g (rfl) (rfl))))))))))))))))))))))))))))))))))))))))))))))))
theorem e1001_ok : Valid PP Γ e1001 := valid_auto ok (vcons e1002_ok (vcons e1004_ok (vcons e1003_ok (vcons e1005_ok (vcons e1006_ok (vcons e1007_ok (vcons e1008_ok (vcons e1009_ok (vcons e1010_ok vnil))))))))) fun a => (f1001_raw a.1 a.2.1 a.2.2.1 a.2.2.2.1 a.2.2.2.2.1 a.2.2.2.2.2.1 a.2.2.2.2.2.2.1 a.2.2.2.2.2.2.2).trans (f1001_form a.1 a.2.1 a.2.2.1 a.2.2.2.1 a.2.2.2.2.1 a.2.2.2.2.2.1 a.2.2.2.2.2.2.1 a.2.2.2.2.2.2.2)

end Go.Proofs.GR.T

set_option maxRecDepth 1000000
set_option maxHeartbeats 100000000
namespace Go.Proofs.GR.T
open Go Go.Proofs Go.Proofs.GR
theorem ops0 (t : ByteArray) : Sp.inOps t 0 = (false) := idx_any (Sp.sameS t) (Sp.f1038 0).1 0 (Int.le_refl 0)
theorem ops1 (t : ByteArray) : Sp.inOps t 1 = (bif (t.toList == (ByteArray.mk #[(111 : UInt8), (114 : UInt8)]).toList) then true else false) := idx_any (Sp.sameS t) (Sp.f1038 1).1 0 (Int.le_refl 0)
theorem ops2 (t : ByteArray) : Sp.inOps t 2 = (bif (t.toList == (ByteArray.mk #[(97 : UInt8), (110 : UInt8), (100 : UInt8)]).toList) then true else false) := idx_any (Sp.sameS t) (Sp.f1038 2).1 0 (Int.le_refl 0)
theorem ops3 (t : ByteArray) : Sp.inOps t 3 = (false) := idx_any (Sp.sameS t) (Sp.f1038 3).1 0 (Int.le_refl 0)
theorem ops4 (t : ByteArray) : Sp.inOps t 4 = (bif (t.toList == (ByteArray.mk #[(61 : UInt8)]).toList) then true else bif (t.toList == (ByteArray.mk #[(60 : UInt8), (62 : UInt8)]).toList) then true else bif (t.toList == (ByteArray.mk #[(60 : UInt8)]).toList) then true else bif (t.toList == (ByteArray.mk #[(60 : UInt8), (61 : UInt8)]).toList) then true else bif (t.toList == (ByteArray.mk #[(62 : UInt8)]).toList) then true else bif (t.toList == (ByteArray.mk #[(62 : UInt8), (61 : UInt8)]).toList) then true else false) := idx_any (Sp.sameS t) (Sp.f1038 4).1 0 (Int.le_refl 0)
theorem ops5 (t : ByteArray) : Sp.inOps t 5 = (bif (t.toList == (ByteArray.mk #[(43 : UInt8)]).toList) then true else bif (t.toList == (ByteArray.mk #[(45 : UInt8)]).toList) then true else false) := idx_any (Sp.sameS t) (Sp.f1038 5).1 0 (Int.le_refl 0)
theorem ops6 (t : ByteArray) : Sp.inOps t 6 = (bif (t.toList == (ByteArray.mk #[(42 : UInt8)]).toList) then true else bif (t.toList == (ByteArray.mk #[(47 : UInt8)]).toList) then true else bif (t.toList == (ByteArray.mk #[(37 : UInt8)]).toList) then true else false) := idx_any (Sp.sameS t) (Sp.f1038 6).1 0 (Int.le_refl 0)
theorem lev_pos (t : ByteArray) : decide (Sp.lev t > 0) = decide ((Sp.f1023 t).1 > 0) := by
  unfold Sp.lev
  rw [ops0, ops1, ops2, ops3, ops4, ops5, ops6]
  unfold Sp.f1023
  generalize (t.toList == (ByteArray.mk #[(111 : UInt8), (114 : UInt8)]).toList) = b0
  generalize (t.toList == (ByteArray.mk #[(97 : UInt8), (110 : UInt8), (100 : UInt8)]).toList) = b1
  generalize (t.toList == (ByteArray.mk #[(61 : UInt8)]).toList) = b2
  generalize (t.toList == (ByteArray.mk #[(60 : UInt8), (62 : UInt8)]).toList) = b3
  generalize (t.toList == (ByteArray.mk #[(60 : UInt8)]).toList) = b4
  generalize (t.toList == (ByteArray.mk #[(60 : UInt8), (61 : UInt8)]).toList) = b5
  generalize (t.toList == (ByteArray.mk #[(62 : UInt8)]).toList) = b6
  generalize (t.toList == (ByteArray.mk #[(62 : UInt8), (61 : UInt8)]).toList) = b7
  generalize (t.toList == (ByteArray.mk #[(43 : UInt8)]).toList) = b8
  generalize (t.toList == (ByteArray.mk #[(45 : UInt8)]).toList) = b9
  generalize (t.toList == (ByteArray.mk #[(42 : UInt8)]).toList) = b10
  generalize (t.toList == (ByteArray.mk #[(47 : UInt8)]).toList) = b11
  generalize (t.toList == (ByteArray.mk #[(37 : UInt8)]).toList) = b12
  cases b0 with
  | true => rfl
  | false =>
    simp only [cond_true, cond_false]
    cases b1 with
    | true => rfl
    | false =>
      simp only [cond_true, cond_false]
      cases b2 with
      | true => rfl
      | false =>
        simp only [cond_true, cond_false]
        cases b3 with
        | true => rfl
        | false =>
          simp only [cond_true, cond_false]
          cases b4 with
          | true => rfl
          | false =>
            simp only [cond_true, cond_false]
            cases b5 with
            | true => rfl
            | false =>
              simp only [cond_true, cond_false]
              cases b6 with
              | true => rfl
              | false =>
                simp only [cond_true, cond_false]
                cases b7 with
                | true => rfl
                | false =>
                  simp only [cond_true, cond_false]
                  cases b8 with
                  | true => rfl
                  | false =>
                    simp only [cond_true, cond_false]
                    cases b9 with
                    | true => rfl
                    | false =>
                      simp only [cond_true, cond_false]
                      cases b10 with
                      | true => rfl
                      | false =>
                        simp only [cond_true, cond_false]
                        cases b11 with
                        | true => rfl
                        | false =>
                          simp only [cond_true, cond_false]
                          cases b12 with
                          | true => rfl
                          | false =>
                            simp only [cond_true, cond_false]
theorem sameS_comm (t w : ByteArray) : (w.toList == t.toList) = Sp.sameS t w := by
  unfold Sp.sameS
  rw [Bool.eq_iff_iff, beq_iff_eq, beq_iff_eq]
  exact eq_comm
theorem free_eq (t : ByteArray) : (Sp.f1029 t).1 = Sp.isFreeS t := by
  unfold Sp.f1029 Sp.isFreeS
  rw [reserved_eq]
  generalize Sp.f209.1 = ws
  have e : (Sp.f1031 ws t).1 = Sp.anyW (Sp.sameS t) ws := idx_any (Sp.sameS t) ws 0 (Int.le_refl 0)
  have e2 : (fun w : ByteArray => !(w.toList == t.toList)) = fun w => !Sp.sameS t w := funext fun w => congrArg Bool.not (sameS_comm t w)
  rw [e2]
  cases Sp.isName (strBytes t) with
  | false => rfl
  | true =>
    show (!(Sp.f1031 ws t).1) = _
    rw [e, anyW_all, Bool.not_not]
    rfl
theorem un4_eq (t : ByteArray) : (Sp.f1031 Sp.unNames t).1 = Sp.un4 t := by
  have e : (Sp.f1031 Sp.unNames t).1 = Sp.anyW (Sp.sameS t) Sp.unNames := idx_any (Sp.sameS t) Sp.unNames 0 (Int.le_refl 0)
  rw [e]
  unfold Sp.un4 Sp.isW Sp.unNames
  simp only [Sp.anyW, Sp.sameS]
  congr 3
  cases t.toList == (ByteArray.mk #[105, 115, 110, 111, 116, 110, 117, 108, 108]).toList <;> rfl
theorem ag4_eq (t : ByteArray) : (Sp.f1031 Sp.f1033.1 t).1 = Sp.ag4 t := by
  have e : (Sp.f1031 Sp.f1033.1 t).1 = Sp.anyW (Sp.sameS t) Sp.f1033.1 := idx_any (Sp.sameS t) Sp.f1033.1 0 (Int.le_refl 0)
  rw [e]
  unfold Sp.ag4 Sp.isW Sp.f1033
  simp only [Sp.anyW, Sp.sameS]
  congr 3
  cases t.toList == (ByteArray.mk #[109, 97, 120]).toList <;> rfl
theorem has13 (a : VA) (ks : List RT) : Sp.hasT a ks false false false true 0 = bif a.2.1 == 0 then bif Sp.mt a.2.2.1 then bif Sp.mt a.2.2.2.1 then (ks.length : Int) == 0 else false else false else false := by
  unfold Sp.hasT Sp.f1028 Sp.mt
  simp only [cond_true, cond_false, show decide ((0 : Int) < 0) = false from rfl]
  cases a.2.1 == 0 <;> cases a.2.2.1.toList == (ByteArray.mk #[]).toList <;> cases a.2.2.2.1.toList == (ByteArray.mk #[]).toList <;> rfl
theorem has14 (a : VA) (ks : List RT) : Sp.hasT a ks false true true false 0 = bif a.2.1 == 0 then bif Sp.noV a.2.2.2.2 then (ks.length : Int) == 0 else false else false := by
  unfold Sp.hasT Sp.f1028 Sp.noV
  simp only [cond_true, cond_false, show decide ((0 : Int) < 0) = false from rfl]
  generalize (Go.Proofs.GR.eqI a.2.2.2.2.1 (0 : Int) && (Go.Proofs.GR.eqI a.2.2.2.2.2.1 (0 : Int) && (Go.Proofs.GR.eqS a.2.2.2.2.2.2 ByteArray.empty && true))) = v
  cases a.2.1 == 0 <;> cases v <;> rfl
theorem hasN (a : VA) (ks : List RT) (n : Int) : Sp.hasT a ks false true false false n = bif a.2.1 == 0 then bif Sp.mt a.2.2.2.1 then bif Sp.noV a.2.2.2.2 then bif decide (n < 0) then true else (ks.length : Int) == n else false else false else false := by
  unfold Sp.hasT Sp.f1028 Sp.noV Sp.mt
  simp only [cond_true, cond_false]
  generalize (Go.Proofs.GR.eqI a.2.2.2.2.1 (0 : Int) && (Go.Proofs.GR.eqI a.2.2.2.2.2.1 (0 : Int) && (Go.Proofs.GR.eqS a.2.2.2.2.2.2 ByteArray.empty && true))) = v
  cases a.2.1 == 0 <;> cases v <;> cases a.2.2.2.1.toList == (ByteArray.mk #[]).toList <;> cases decide (n < 0) <;> rfl
theorem f171_136 (x y : Int) (t : ByteArray) : (Sp.f171 x y t).1 = (Sp.f136 x y t).1 := by
  unfold Sp.f171 Sp.f136
  cases x == 0 <;> cases x == 1 <;> cases x == 2 <;> try rfl
  show (bif (Sp.f167 x).1 then _ else _ : Bool × Unit).1 = _
  unfold Sp.f167
  cases x == 3 <;> cases x == 4 <;> rfl
/-- The kids' word: none is bad. -/
theorem xBad_l {ks : List RT} (ih : ∀ r ∈ ks, ∀ g, Sp.xOK r g = Sp.lT r g) (g : Bool) : Sp.xBad ks g = Sp.anyW (fun r => !Sp.lT r g) ks := by
  rw [← xBad_any]
  exact anyW_congr fun r hr => by rw [ih r hr g]
theorem xOK_eq : ∀ (r : RT) (g : Bool), Sp.xOK r g = Sp.lT r g :=
  Rose.ind fun a ks ih g => by
    rw [Sp.xOK, lT_mk, xBad_l ih]
    unfold Sp.xNode Sp.lNode
    rw [has13, has14, hasN, hasN, hasN, free_eq, un4_eq, ag4_eq, lev_pos, f171_136]
    have eF : (Sp.f1030 a.2.2.2.1).1 = bif Sp.mt a.2.2.2.1 then true else Sp.isFreeS a.2.2.2.1 := by
      unfold Sp.f1030 Sp.mt
      rw [free_eq]
      cases a.2.2.2.1.toList == (ByteArray.mk #[]).toList <;> rfl
    rw [eF, List.length_map]
    clear eF
    have bn : (a.1 != 17) = !(a.1 == 17) := rfl
    rw [bn]
    match ks with
    | [] =>
      have a0 : (((([] : List RT)).length : Int) == 0) = true := rfl
      have a1 : (((([] : List RT)).length : Int) == 1) = false := rfl
      have a2 : (((([] : List RT)).length : Int) == 2) = false := rfl
      rw [a0, a1, a2]
      by_cases h7 : a.1 = 17
      · rw [h7]
        rw [show ((17 : Int) == 13) = false from rfl, show ((17 : Int) == 14) = false from rfl, show ((17 : Int) == 15) = false from rfl, show ((17 : Int) == 16) = false from rfl, show ((17 : Int) == 17) = true from rfl]
        simp only [Sp.anyW, cond_true, cond_false, Bool.not_true, show decide ((0 : Int) < 0) = false from rfl, show decide ((1 : Int) < 0) = false from rfl, show decide ((2 : Int) < 0) = false from rfl, show decide ((-1 : Int) < 0) = true from rfl]
        generalize (a.2.1 == 0) = n0, Sp.mt a.2.2.1 = m1, Sp.mt a.2.2.2.1 = m2, Sp.noV a.2.2.2.2 = v, (Sp.f136 a.2.2.2.2.1 a.2.2.2.2.2.1 a.2.2.2.2.2.2).1 = f, Sp.isFreeS a.2.2.1 = i1, Sp.isFreeS a.2.2.2.1 = i2, Sp.un4 a.2.2.1 = u, Sp.ag4 a.2.2.1 = ag
        cases g <;> cases n0 <;> cases m2 <;> cases v <;> cases ag <;> rfl
      · rw [show (a.1 == 17) = false from beq_false_of_ne h7]
        generalize (a.1 == 13) = k3, (a.1 == 14) = k4, (a.1 == 15) = k5, (a.1 == 16) = k6
        simp only [Sp.anyW, cond_true, cond_false, Bool.not_false, show decide ((0 : Int) < 0) = false from rfl, show decide ((1 : Int) < 0) = false from rfl, show decide ((2 : Int) < 0) = false from rfl, show decide ((-1 : Int) < 0) = true from rfl]
        generalize (a.2.1 == 0) = n0, Sp.mt a.2.2.1 = m1, Sp.mt a.2.2.2.1 = m2, Sp.noV a.2.2.2.2 = v, (Sp.f136 a.2.2.2.2.1 a.2.2.2.2.2.1 a.2.2.2.2.2.2).1 = f, Sp.isFreeS a.2.2.1 = i1, Sp.isFreeS a.2.2.2.1 = i2, Sp.un4 a.2.2.1 = u, Sp.ag4 a.2.2.1 = ag
        have gg : (bif g then true else false) = g := by cases g <;> rfl
        try rw [gg]
        cases k3
        · cases k4
          · cases k5
            · cases k6
              · rfl
              · cases n0 <;> cases m2 <;> cases v <;> cases decide ((Sp.f1023 a.2.2.1).1 > 0) <;> rfl
            · cases n0 <;> cases m2 <;> cases v <;> cases u <;> rfl
          · cases n0 <;> cases m2 <;> cases v <;> cases i1 <;> cases i2 <;> rfl
        · cases n0 <;> cases m1 <;> cases m2 <;> cases f <;> rfl
    | [r] =>
      have a0 : (((([r] : List RT)).length : Int) == 0) = false := rfl
      have a1 : (((([r] : List RT)).length : Int) == 1) = true := rfl
      have a2 : (((([r] : List RT)).length : Int) == 2) = false := rfl
      have gf : ([r].map Sp.lT).getD 0 (fun _ => false) = Sp.lT r := rfl
      rw [a0, a1, a2, gf]
      by_cases h7 : a.1 = 17
      · rw [h7]
        rw [show ((17 : Int) == 13) = false from rfl, show ((17 : Int) == 14) = false from rfl, show ((17 : Int) == 15) = false from rfl, show ((17 : Int) == 16) = false from rfl, show ((17 : Int) == 17) = true from rfl]
        simp only [Sp.anyW, cond_true, cond_false, Bool.not_true, show decide ((0 : Int) < 0) = false from rfl, show decide ((1 : Int) < 0) = false from rfl, show decide ((2 : Int) < 0) = false from rfl, show decide ((-1 : Int) < 0) = true from rfl]
        generalize (a.2.1 == 0) = n0, Sp.mt a.2.2.1 = m1, Sp.mt a.2.2.2.1 = m2, Sp.noV a.2.2.2.2 = v, (Sp.f136 a.2.2.2.2.1 a.2.2.2.2.2.1 a.2.2.2.2.2.2).1 = f, Sp.isFreeS a.2.2.1 = i1, Sp.isFreeS a.2.2.2.1 = i2, Sp.un4 a.2.2.1 = u, Sp.ag4 a.2.2.1 = ag
        have gf0 : (bif g then false else false) = false := by cases g <;> rfl
        rw [gf0]
        cases g <;> cases n0 <;> cases m2 <;> cases v <;> cases ag <;> cases Sp.lT r false <;> rfl
      · rw [show (a.1 == 17) = false from beq_false_of_ne h7]
        generalize (a.1 == 13) = k3, (a.1 == 14) = k4, (a.1 == 15) = k5, (a.1 == 16) = k6
        simp only [Sp.anyW, cond_true, cond_false, Bool.not_false, show decide ((0 : Int) < 0) = false from rfl, show decide ((1 : Int) < 0) = false from rfl, show decide ((2 : Int) < 0) = false from rfl, show decide ((-1 : Int) < 0) = true from rfl]
        generalize (a.2.1 == 0) = n0, Sp.mt a.2.2.1 = m1, Sp.mt a.2.2.2.1 = m2, Sp.noV a.2.2.2.2 = v, (Sp.f136 a.2.2.2.2.1 a.2.2.2.2.2.1 a.2.2.2.2.2.2).1 = f, Sp.isFreeS a.2.2.1 = i1, Sp.isFreeS a.2.2.2.1 = i2, Sp.un4 a.2.2.1 = u, Sp.ag4 a.2.2.1 = ag
        have gg : (bif g then true else false) = g := by cases g <;> rfl
        try rw [gg]
        cases k3
        · cases k4
          · cases k5
            · cases k6
              · cases Sp.lT r g <;> rfl
              · cases Sp.lT r g <;> cases n0 <;> cases m2 <;> cases v <;> cases decide ((Sp.f1023 a.2.2.1).1 > 0) <;> rfl
            · cases Sp.lT r g <;> cases n0 <;> cases m2 <;> cases v <;> cases u <;> rfl
          · cases Sp.lT r g <;> cases n0 <;> cases m2 <;> cases v <;> cases i1 <;> cases i2 <;> rfl
        · cases Sp.lT r g <;> cases n0 <;> cases m1 <;> cases m2 <;> rfl
    | [r, s] =>
      have a0 : (((([r, s] : List RT)).length : Int) == 0) = false := rfl
      have a1 : (((([r, s] : List RT)).length : Int) == 1) = false := rfl
      have a2 : (((([r, s] : List RT)).length : Int) == 2) = true := rfl
      have gf : ([r, s].map Sp.lT).getD 0 (fun _ => false) = Sp.lT r := rfl
      have gs : ([r, s].map Sp.lT).getD 1 (fun _ => false) = Sp.lT s := rfl
      rw [a0, a1, a2, gf, gs]
      by_cases h7 : a.1 = 17
      · rw [h7]
        rw [show ((17 : Int) == 13) = false from rfl, show ((17 : Int) == 14) = false from rfl, show ((17 : Int) == 15) = false from rfl, show ((17 : Int) == 16) = false from rfl, show ((17 : Int) == 17) = true from rfl]
        simp only [Sp.anyW, cond_true, cond_false, Bool.not_true, show decide ((0 : Int) < 0) = false from rfl, show decide ((1 : Int) < 0) = false from rfl, show decide ((2 : Int) < 0) = false from rfl, show decide ((-1 : Int) < 0) = true from rfl]
        generalize (a.2.1 == 0) = n0, Sp.mt a.2.2.1 = m1, Sp.mt a.2.2.2.1 = m2, Sp.noV a.2.2.2.2 = v, (Sp.f136 a.2.2.2.2.1 a.2.2.2.2.2.1 a.2.2.2.2.2.2).1 = f, Sp.isFreeS a.2.2.1 = i1, Sp.isFreeS a.2.2.2.1 = i2, Sp.un4 a.2.2.1 = u, Sp.ag4 a.2.2.1 = ag
        have gf0 : (bif g then false else false) = false := by cases g <;> rfl
        rw [gf0]
        cases g <;> cases n0 <;> cases m2 <;> cases v <;> cases ag <;> cases Sp.lT r false <;> cases Sp.lT s false <;> rfl
      · rw [show (a.1 == 17) = false from beq_false_of_ne h7]
        generalize (a.1 == 13) = k3, (a.1 == 14) = k4, (a.1 == 15) = k5, (a.1 == 16) = k6
        simp only [Sp.anyW, cond_true, cond_false, Bool.not_false, show decide ((0 : Int) < 0) = false from rfl, show decide ((1 : Int) < 0) = false from rfl, show decide ((2 : Int) < 0) = false from rfl, show decide ((-1 : Int) < 0) = true from rfl]
        generalize (a.2.1 == 0) = n0, Sp.mt a.2.2.1 = m1, Sp.mt a.2.2.2.1 = m2, Sp.noV a.2.2.2.2 = v, (Sp.f136 a.2.2.2.2.1 a.2.2.2.2.2.1 a.2.2.2.2.2.2).1 = f, Sp.isFreeS a.2.2.1 = i1, Sp.isFreeS a.2.2.2.1 = i2, Sp.un4 a.2.2.1 = u, Sp.ag4 a.2.2.1 = ag
        have gg : (bif g then true else false) = g := by cases g <;> rfl
        try rw [gg]
        cases k3
        · cases k4
          · cases k5
            · cases k6
              · cases Sp.lT r g <;> cases Sp.lT s g <;> rfl
              · cases Sp.lT r g <;> cases Sp.lT s g <;> cases n0 <;> cases m2 <;> cases v <;> cases decide ((Sp.f1023 a.2.2.1).1 > 0) <;> rfl
            · cases Sp.lT r g <;> cases Sp.lT s g <;> cases n0 <;> cases m2 <;> cases v <;> cases u <;> rfl
          · cases Sp.lT r g <;> cases Sp.lT s g <;> cases n0 <;> cases m2 <;> cases v <;> cases i1 <;> cases i2 <;> rfl
        · cases Sp.lT r g <;> cases Sp.lT s g <;> cases n0 <;> cases m1 <;> cases m2 <;> rfl
    | r :: s :: t :: l =>
      have ln : ((r :: s :: t :: l : List RT).length : Int) = (l.length : Int) + 3 := by simp only [List.length_cons]; omega
      have a0 : (((r :: s :: t :: l : List RT).length : Int) == 0) = false := by rw [ln]; exact beq_false_of_ne (by omega)
      have a1 : (((r :: s :: t :: l : List RT).length : Int) == 1) = false := by rw [ln]; exact beq_false_of_ne (by omega)
      have a2 : (((r :: s :: t :: l : List RT).length : Int) == 2) = false := by rw [ln]; exact beq_false_of_ne (by omega)
      have gA : ∀ g, Sp.anyW (fun r => !Sp.lT r g) (r :: s :: t :: l) = true ∨ Sp.anyW (fun r => !Sp.lT r g) (r :: s :: t :: l) = false := fun g => by cases Sp.anyW (fun r => !Sp.lT r g) (r :: s :: t :: l) <;> simp
      rw [a0, a1, a2]
      generalize (Sp.anyW (fun r' => !Sp.lT r' (bif g then !(a.1 == 17) else false)) (r :: s :: t :: l)) = w
      by_cases h7 : a.1 = 17
      · rw [h7]
        rw [show ((17 : Int) == 13) = false from rfl, show ((17 : Int) == 14) = false from rfl, show ((17 : Int) == 15) = false from rfl, show ((17 : Int) == 16) = false from rfl, show ((17 : Int) == 17) = true from rfl]
        simp only [Sp.anyW, cond_true, cond_false, Bool.not_true, show decide ((0 : Int) < 0) = false from rfl, show decide ((1 : Int) < 0) = false from rfl, show decide ((2 : Int) < 0) = false from rfl, show decide ((-1 : Int) < 0) = true from rfl]
        generalize (a.2.1 == 0) = n0, Sp.mt a.2.2.1 = m1, Sp.mt a.2.2.2.1 = m2, Sp.noV a.2.2.2.2 = v, (Sp.f136 a.2.2.2.2.1 a.2.2.2.2.2.1 a.2.2.2.2.2.2).1 = f, Sp.isFreeS a.2.2.1 = i1, Sp.isFreeS a.2.2.2.1 = i2, Sp.un4 a.2.2.1 = u, Sp.ag4 a.2.2.1 = ag
        cases w <;> cases g <;> cases n0 <;> cases m2 <;> cases v <;> cases ag <;> rfl
      · try rw [show (a.1 == 17) = false from beq_false_of_ne h7]
        generalize (a.1 == 13) = k3, (a.1 == 14) = k4, (a.1 == 15) = k5, (a.1 == 16) = k6
        simp only [Sp.anyW, cond_true, cond_false, Bool.not_false, show decide ((0 : Int) < 0) = false from rfl, show decide ((1 : Int) < 0) = false from rfl, show decide ((2 : Int) < 0) = false from rfl, show decide ((-1 : Int) < 0) = true from rfl]
        generalize (a.2.1 == 0) = n0, Sp.mt a.2.2.1 = m1, Sp.mt a.2.2.2.1 = m2, Sp.noV a.2.2.2.2 = v, (Sp.f136 a.2.2.2.2.1 a.2.2.2.2.2.1 a.2.2.2.2.2.2).1 = f, Sp.isFreeS a.2.2.1 = i1, Sp.isFreeS a.2.2.2.1 = i2, Sp.un4 a.2.2.1 = u, Sp.ag4 a.2.2.1 = ag
        have gg : (bif g then true else false) = g := by cases g <;> rfl
        try rw [gg]
        cases k3
        · cases k4
          · cases k5
            · cases k6
              · cases w <;> rfl
              · cases w <;> cases n0 <;> cases m2 <;> cases v <;> cases decide ((Sp.f1023 a.2.2.1).1 > 0) <;> rfl
            · cases w <;> cases n0 <;> cases m2 <;> cases v <;> cases u <;> rfl
          · cases w <;> cases n0 <;> cases m2 <;> cases v <;> cases i1 <;> cases i2 <;> rfl
        · cases w <;> cases n0 <;> cases m1 <;> cases m2 <;> rfl
theorem wf_of {a : VA} {ks : List RT} (h : Wf tT (Rose.mk a ks)) : (a.2.2.1.size ≤ 9223372036854775807 ∧ a.2.2.2.1.size ≤ 9223372036854775807 ∧ a.2.2.2.2.2.2.size ≤ 9223372036854775807) ∧ ks.length ≤ 9223372036854775807 ∧ ∀ r ∈ ks, Wf tT r := by
  obtain ⟨h1, h2⟩ := Wf.rose_iff.1 h
  exact ⟨⟨h1.2.2.1, h1.2.2.2.1, h1.2.2.2.2.2.2⟩, h2⟩
theorem strTs_all : ∀ {l : List RT}, (∀ r ∈ l, Sp.strT r = true) → Sp.strTs l = true
  | [], _ => by rw [Sp.strTs]
  | r :: l, h => by rw [Sp.strTs, h r (List.mem_cons_self), strTs_all fun s hs => h s (List.mem_cons_of_mem _ hs)]; rfl
theorem strT_of : ∀ r : RT, Wf tT r → Sp.strT r = true :=
  Rose.ind fun a ks ih h => by
    obtain ⟨⟨h1, h2, h3⟩, h4, h5⟩ := wf_of h
    rw [Sp.strT, strTs_all fun r hr => ih r hr (h5 r hr)]
    unfold Sp.s63
    rw [Nat.ble_eq_true_of_le h1, Nat.ble_eq_true_of_le h2]
    rfl
theorem cntTs_eq2 : ∀ ks : List RT, Sp.cntTs ks = ks.length + Sp.wtW (fun r : RT => Sp.cntTs r.kids) ks
  | [] => by rw [Sp.cntTs]; rfl
  | r :: l => by
    have := cnt_kids r
    rw [Sp.cntTs, cntTs_eq2 l, List.length_cons, Sp.wtW]
    omega
theorem szTf_le {a : VA} {g : Int → Int} {n : Nat} (h1 : a.2.2.1.size ≤ 9223372036854775807) (h2 : a.2.2.2.1.size ≤ 9223372036854775807) (h3 : a.2.2.2.2.2.2.size ≤ 9223372036854775807) (hg : ∀ l, 0 ≤ l → l ≤ 1048576 → 0 ≤ g l → g l + (n : Int) ≤ l) (l : Int) (h0 : 0 ≤ l) (hl : l ≤ 1048576) (h : 0 ≤ Sp.szTf a g l) : Sp.szTf a g l + (n : Int) ≤ l := by
  unfold Sp.szTf at h ⊢
  rw [wrap64 (n := l - (a.2.2.1.size : Int)) (by omega) (by omega)] at h ⊢
  by_cases c1 : l - (a.2.2.1.size : Int) < 0
  · rw [decide_eq_true c1] at h; exact absurd h (show ¬ (0 : Int) ≤ -1 by decide)
  rw [decide_eq_false c1, cond_false] at h ⊢
  rw [wrap64 (n := l - (a.2.2.1.size : Int) - (a.2.2.2.1.size : Int)) (by omega) (by omega)] at h ⊢
  by_cases c2 : l - (a.2.2.1.size : Int) - (a.2.2.2.1.size : Int) < 0
  · rw [decide_eq_true c2] at h; exact absurd h (show ¬ (0 : Int) ≤ -1 by decide)
  rw [decide_eq_false c2, cond_false] at h ⊢
  have hv := szV_le (x := a.2.2.2.2) h3 (l - (a.2.2.1.size : Int) - (a.2.2.2.1.size : Int)) (by omega) (by omega)
  revert h hv
  generalize Sp.szV a.2.2.2.2 (l - (a.2.2.1.size : Int) - (a.2.2.2.1.size : Int)) = v
  intro h hv
  by_cases c3 : v < 0
  · rw [decide_eq_true c3] at h; exact absurd h (show ¬ (0 : Int) ≤ -1 by decide)
  rw [decide_eq_false c3, cond_false] at h ⊢
  by_cases c4 : g v < 0
  · rw [decide_eq_true c4] at h; exact absurd h (show ¬ (0 : Int) ≤ -1 by decide)
  rw [decide_eq_false c4, cond_false] at h ⊢
  have := hg v (by omega) (by omega) h
  omega
theorem szT_wt : ∀ r : RT, Wf tT r → ∀ l, 0 ≤ l → l ≤ 1048576 → 0 ≤ Sp.szT r l → Sp.szT r l + (Sp.cntTs r.kids : Int) ≤ l :=
  Rose.ind fun a ks ih h l h0 hl hz => by
    obtain ⟨⟨h1, h2, h3⟩, h4, h5⟩ := wf_of h
    rw [szT_mk] at hz ⊢
    refine szTf_le h1 h2 h3 (fun l h0 hl hz => ?_) l h0 hl hz
    have := szE_wt (f := Sp.szT) (c := fun r => Sp.cntTs r.kids) (xs := ks) h4 (fun x hx l a b c => ih x hx (h5 x hx) l a b c) h0 hl hz
    show _ + ((Sp.cntTs ks : Nat) : Int) ≤ l
    rw [cntTs_eq2 ks, Int.natCast_add]
    omega
theorem fitTs_list : ∀ {l : List RT}, (∀ r ∈ l, Sp.cntT r ≤ 1000000000000 → Sp.fitT r = true) → Sp.cntTs l ≤ 1000000000000 → Sp.fitTs l = true
  | [], _, _ => by rw [Sp.fitTs]
  | r :: l, h, hc => by
    have hl := cnt_len (r :: l)
    rw [Sp.cntTs] at hc hl
    rw [Sp.fitTs, Nat.ble_eq_true_of_le (by omega), h r (List.mem_cons_self) (by omega), fitTs_list (fun s hs => h s (List.mem_cons_of_mem _ hs)) (by omega)]
    rfl
theorem fitT_cnt : ∀ r : RT, Sp.cntT r ≤ 1000000000000 → Sp.fitT r = true :=
  Rose.ind fun a ks ih h => by
    rw [Sp.fitT]
    have := cnt_kids (Rose.mk a ks)
    have e : Sp.cntTs (Rose.mk a ks).kids = Sp.cntTs ks := rfl
    exact fitTs_list ih (by omega)
theorem fitTs_cnt {l : List RT} (h : Sp.cntTs l ≤ 1000000000000) : Sp.fitTs l = true := fitTs_list (fun r _ => fitT_cnt r) h
theorem wTs_list : ∀ {l : List RT}, (∀ r ∈ l, Sp.wT r = 7 * Sp.cntT r) → Sp.wTs l = 7 * Sp.cntTs l
  | [], _ => by rw [Sp.wTs, Sp.cntTs]
  | r :: l, h => by rw [Sp.wTs, Sp.cntTs, h r (List.mem_cons_self), wTs_list fun s hs => h s (List.mem_cons_of_mem _ hs)]; omega
theorem wT_cnt : ∀ r : RT, Sp.wT r = 7 * Sp.cntT r :=
  Rose.ind fun a ks ih => by
    have := cnt_kids (Rose.mk a ks)
    have e : Sp.cntTs (Rose.mk a ks).kids = Sp.cntTs ks := rfl
    rw [Sp.wT, wTs_list ih]
    omega
theorem wTs_cnt (l : List RT) : Sp.wTs l = 7 * Sp.cntTs l := wTs_list fun r _ => wT_cnt r
theorem wTs_marks : ∀ {l : List RT}, (∀ r ∈ l, ∀ k, Sp.wT (Sp.markT r k) = Sp.wT r) → ∀ k, Sp.wTs (Sp.markTs l k) = Sp.wTs l
  | [], _, k => by rw [Sp.markTs]
  | r :: l, h, k => by rw [Sp.markTs, Sp.wTs, Sp.wTs, h r (List.mem_cons_self), wTs_marks fun s hs => h s (List.mem_cons_of_mem _ hs)]
theorem wT_mark : ∀ (r : RT) (k : Int), Sp.wT (Sp.markT r k) = Sp.wT r :=
  Rose.ind fun a ks ih k => by rw [Sp.markT, Sp.wT, Sp.wT, wTs_marks ih]
theorem wTs_mark (l : List RT) (k : Int) : Sp.wTs (Sp.markTs l k) = Sp.wTs l := wTs_marks (fun r _ => wT_mark r) k
theorem smallTs_mk {l : List RT} (h : Sp.cntTs l ≤ 2000000) : Sp.smallTs l 1 = true := by
  refine smallU_mk (by omega) ?_
  rw [← wTs_eq, wTs_cnt, show Int.toNat 1 = 1 from rfl]
  omega
theorem smallTs_mark {l : List RT} (h : Sp.cntTs l ≤ 2000000) : Sp.smallTs (Sp.markTs l 1) 1 = true := by
  refine smallU_mk (by omega) ?_
  rw [← wTs_eq, wTs_mark, wTs_cnt, show Int.toNat 1 = 1 from rfl]
  omega
theorem cntTs_app : ∀ (l m : List RT), Sp.cntTs (l ++ m) = Sp.cntTs l + Sp.cntTs m
  | [], m => by rw [List.nil_append, show Sp.cntTs [] = 0 by rw [Sp.cntTs]]; omega
  | r :: l, m => by rw [List.cons_append, Sp.cntTs, Sp.cntTs, cntTs_app l m]; omega
theorem cnt_conj : ∀ r : RT, Sp.cntTs (Sp.conjT r) ≤ Sp.cntT r :=
  Rose.ind fun a ks ih => by
    have e0 : Sp.cntTs ([] : List RT) = 0 := by rw [Sp.cntTs]
    rw [Sp.conjT]
    cases Sp.isAnd a with
    | false => rw [cond_false, Sp.cntTs, e0]; omega
    | true =>
      rw [cond_true]
      match ks, ih with
      | [], _ => rw [Sp.conj2, e0]; exact Nat.zero_le _; all_goals simp
      | [r], _ => rw [Sp.conj2, e0]; exact Nat.zero_le _; all_goals simp
      | r :: s :: l, ih =>
        have hk := cnt_kids (Rose.mk a (r :: s :: l))
        have e : Sp.cntTs (Rose.mk a (r :: s :: l)).kids = Sp.cntTs (r :: s :: l) := rfl
        rw [Sp.cntTs, Sp.cntTs] at e
        rw [Sp.conj2, cntTs_app]
        have h1 := ih r (by simp)
        have h2 := ih s (by simp)
        omega
theorem eqTs_list : ∀ {l : List RT}, (∀ r ∈ l, Sp.eqT r r = true) → Sp.eqTs l l = true
  | [], _ => by rw [Sp.eqTs]
  | r :: l, h => by rw [Sp.eqTs, h r (List.mem_cons_self), eqTs_list fun s hs => h s (List.mem_cons_of_mem _ hs)]; rfl
theorem eqA_self (a : VA) : Sp.eqA a a = true := by
  have e : Sp.eqVt a.2.2.2.2 a.2.2.2.2 = true := by unfold Sp.eqVt Sp.f86; simp
  unfold Sp.eqA
  rw [e]
  simp
theorem eqT_self : ∀ r : RT, Sp.eqT r r = true :=
  Rose.ind fun a ks ih => by rw [Sp.eqT, eqA_self, eqTs_list ih]; rfl
theorem eqTs_self (l : List RT) : Sp.eqTs l l = true := eqTs_list fun r _ => eqT_self r
theorem lT_and : ∀ (r : RT) (g : Bool), Sp.lT r g = true → Sp.andT r = true :=
  Rose.ind fun a ks ih g h => by
    rw [Sp.andT]
    cases hA : Sp.isAnd a with
    | false => rfl
    | true =>
      have h16 : a.1 = 16 := by
        unfold Sp.isAnd at hA
        cases hk : a.1 == 16 with
        | true => exact eq_of_beq hk
        | false => rw [hk, cond_false] at hA; cases hA
      rw [lT_mk] at h
      unfold Sp.lNode at h
      rw [h16, show ((16 : Int) == 13) = false from rfl, show ((16 : Int) == 14) = false from rfl, show ((16 : Int) == 15) = false from rfl, show ((16 : Int) == 16) = true from rfl, cond_false, cond_false, cond_false, cond_true, List.length_map] at h
      rw [cond_true]
      match ks, ih, h with
      | [r, s], ih, h =>
        have gf : ([r, s].map Sp.lT).getD 0 (fun _ => false) = Sp.lT r := rfl
        have gs : ([r, s].map Sp.lT).getD 1 (fun _ => false) = Sp.lT s := rfl
        rw [gf, gs] at h
        have hr := ih r (by simp) g
        have hs := ih s (by simp) g
        rw [Sp.and2]
        revert h hr hs
        generalize Sp.lT r g = b1, Sp.lT s g = b2, (((([r, s] : List RT).length : Nat) : Int) == 2) = b3, (a.2.1 == 0) = b4, Sp.noV a.2.2.2.2 = b5, Sp.mt a.2.2.2.1 = b6, decide ((Sp.f1023 a.2.2.1).1 > 0) = b7
        intro h hr hs
        cases b4 <;> cases b5 <;> cases b6 <;> cases b7 <;> cases b3 <;> cases b1 <;> cases b2 <;> first | (exact absurd h (by decide)) | (rw [hr rfl, hs rfl]; rfl)
      | [], _, h =>
        exfalso
        revert h
        rw [show (((([] : List RT).length : Nat) : Int) == 2) = false from rfl]
        cases a.2.1 == 0 <;> cases Sp.noV a.2.2.2.2 <;> cases Sp.mt a.2.2.2.1 <;> cases decide ((Sp.f1023 a.2.2.1).1 > 0) <;> simp
      | [r], _, h =>
        exfalso
        revert h
        rw [show (((([r] : List RT).length : Nat) : Int) == 2) = false from rfl]
        cases a.2.1 == 0 <;> cases Sp.noV a.2.2.2.2 <;> cases Sp.mt a.2.2.2.1 <;> cases decide ((Sp.f1023 a.2.2.1).1 > 0) <;> simp
      | r :: s :: t :: l, _, h =>
        exfalso
        have ln : ((r :: s :: t :: l : List RT).length : Int) = (l.length : Int) + 3 := by simp only [List.length_cons]; omega
        have a2 : (((r :: s :: t :: l : List RT).length : Int) == 2) = false := by rw [ln]; exact beq_false_of_ne (by omega)
        revert h
        rw [a2]
        cases a.2.1 == 0 <;> cases Sp.noV a.2.2.2.2 <;> cases Sp.mt a.2.2.2.1 <;> cases decide ((Sp.f1023 a.2.2.1).1 > 0) <;> simp
def Sp.leftP (dp : Bool) (c : Nat) (l v : Int) : Prop := (dp = false ∧ (c : Int) ≤ l → v = l - (c : Int)) ∧ (¬ (dp = false ∧ (c : Int) ≤ l) → v < 0)
theorem left_list : ∀ {ks : List RT} {d : Int}, (∀ r ∈ ks, ∀ l, 0 ≤ l → l ≤ 1000 → Sp.leftP (Sp.deepT r (Sp.predL (21 - d))) (Sp.cntT r) l (Sp.leftT r l (Sp.succL d))) → ∀ l, -1 ≤ l → l ≤ 1000 → Sp.leftP (Sp.deepTs ks (21 - d)) (Sp.cntTs ks) l (Sp.leftTs ks l d)
  | [], d, _, l, h0, h1 => by
    rw [Sp.deepTs, Sp.cntTs, Sp.leftTs]
    exact ⟨fun _ => by omega, fun h => by
      have : ¬ ((0 : Nat) : Int) ≤ l := fun hh => h ⟨rfl, hh⟩
      omega⟩
  | r :: ks, d, h, l, h0, h1 => by
    rw [Sp.deepTs, Sp.cntTs, Sp.leftTs]
    by_cases hc : l ≥ 0
    · rw [decide_eq_true hc, cond_true]
      obtain ⟨p1, p2⟩ := h r (List.mem_cons_self) l hc h1
      by_cases hq : Sp.deepT r (Sp.predL (21 - d)) = false ∧ (Sp.cntT r : Int) ≤ l
      · obtain ⟨q1, q2⟩ := left_list (fun s hs => h s (List.mem_cons_of_mem _ hs)) (l - (Sp.cntT r : Int)) (by omega) (by omega)
        rw [p1 hq, hq.1, cond_false]
        unfold Sp.leftP
        rw [Int.natCast_add]
        refine ⟨fun ⟨a, b⟩ => ?_, fun hn => q2 fun ⟨a, b⟩ => hn ⟨a, by omega⟩⟩
        have := q1 ⟨a, by omega⟩
        omega
      · have hv := p2 hq
        have e : Sp.leftTs ks (Sp.leftT r l (Sp.succL d)) d = Sp.leftT r l (Sp.succL d) := by
          cases ks with
          | nil => rw [Sp.leftTs]
          | cons s ks => rw [Sp.leftTs, decide_eq_false (by omega)]; rfl
        rw [e]
        refine ⟨fun ⟨a, b⟩ => ?_, fun _ => hv⟩
        exfalso
        rw [Int.natCast_add] at b
        refine hq ⟨?_, by omega⟩
        cases hd : Sp.deepT r (Sp.predL (21 - d)) with
        | false => rfl
        | true => rw [hd, cond_true] at a; cases a
    · rw [decide_eq_false hc, cond_false]
      unfold Sp.leftP
      rw [Int.natCast_add]
      exact ⟨fun ⟨a, b⟩ => by omega, fun _ => by omega⟩
theorem left_of : ∀ (r : RT) (l d : Int), 0 ≤ l → l ≤ 1000 → 1 ≤ d → d ≤ 21 → Sp.leftP (Sp.deepT r (21 - d)) (Sp.cntT r) l (Sp.leftT r l d) :=
  Rose.ind fun a ks ih l d h0 h1 d0 d1 => by
    have hk := cnt_kids (Rose.mk a ks)
    have e : Sp.cntTs (Rose.mk a ks).kids = Sp.cntTs ks := rfl
    rw [Sp.deepT, Sp.leftT, ← hk, e]
    by_cases hd : d = 21
    · subst hd
      exact ⟨fun h => (by cases h.1), fun _ => show (-1 : Int) < 0 by omega⟩
    · rw [decide_eq_false (show ¬ d > 20 by omega), cond_false, show ((21 - d) == 0) = false from beq_false_of_ne (by omega), cond_false]
      have e1 : Sp.predL l = l - 1 := wrap64 (by omega) (by omega)
      have e2 : Sp.succL d = d + 1 := wrap64 (by omega) (by omega)
      have e3 : Sp.predL (21 - d) = 21 - (d + 1) := (wrap64 (by omega) (by omega)).trans (by omega)
      obtain ⟨q1, q2⟩ := left_list (ks := ks) (d := d) (fun r hr l a b => by rw [e2, e3]; exact ih r hr l (d + 1) a b (by omega) (by omega)) (l - 1) (by omega) (by omega)
      rw [e1]
      unfold Sp.leftP
      rw [Int.natCast_add]
      refine ⟨fun ⟨a, b⟩ => ?_, fun hn => q2 fun ⟨a, b⟩ => hn ⟨a, by omega⟩⟩
      have := q1 ⟨a, by omega⟩
      omega
theorem left_ok (r : RT) : decide (Sp.leftT r 120 1 ≥ 0) = bif !Sp.deepT r 20 then decide ((((1 : Nat) + Sp.cntTs r.kids : Nat) : Int) ≤ 120) else false := by
  obtain ⟨p1, p2⟩ := left_of r 120 1 (by omega) (by omega) (by omega) (by omega)
  have p1 : Sp.deepT r 20 = false ∧ (Sp.cntT r : Int) ≤ 120 → Sp.leftT r 120 1 = 120 - (Sp.cntT r : Int) := p1
  have p2 : ¬ (Sp.deepT r 20 = false ∧ (Sp.cntT r : Int) ≤ 120) → Sp.leftT r 120 1 < 0 := p2
  rw [cnt_kids]
  by_cases h : Sp.deepT r 20 = false ∧ (Sp.cntT r : Int) ≤ 120
  · rw [h.1, decide_eq_true h.2, p1 h]
    exact decide_eq_true (by omega)
  · rw [decide_eq_false (by have := p2 h; omega)]
    cases hd : Sp.deepT r 20 with
    | true => rfl
    | false => exact (decide_eq_false fun hc => h ⟨hd, hc⟩).symm
theorem okT_eq (x0 x1 : Int) (x2 x3 : ByteArray) (x4 x5 : Int) (x6 : ByteArray) (x7 : List RT) : (Sp.f1016 x0 x1 x2 x3 x4 x5 x6 x7).1 = Sp.okT (Sp.mkT (x0, x1, x2, x3, x4, x5, x6, x7)) := by
  unfold Sp.okT Sp.f1016 Sp.f1020
  rw [left_ok, xOK_eq]
  show (bif (bif !Sp.deepT (Sp.mkT (x0, x1, x2, x3, x4, x5, x6, x7)) 20 then (decide ((((1 : Nat) + Sp.cntTs x7 : Nat) : Int) ≤ 120), ()) else (false, ())).1 then _ else _ : Bool × Unit).1 = bif (bif !Sp.deepT (Sp.mkT (x0, x1, x2, x3, x4, x5, x6, x7)) 20 then decide ((((1 : Nat) + Sp.cntTs x7 : Nat) : Int) ≤ 120) else false) then _ else _
  cases Sp.deepT (Sp.mkT (x0, x1, x2, x3, x4, x5, x6, x7)) 20 <;> cases decide ((((1 : Nat) + Sp.cntTs x7 : Nat) : Int) ≤ 120) <;> rfl
theorem okT_and {r : RT} (h : Sp.okT r = true) : Sp.andT r = true := by
  unfold Sp.okT at h
  cases hl : decide (Sp.leftT r 120 1 ≥ 0) with
  | false => rw [hl, cond_false] at h; cases h
  | true => rw [hl, cond_true] at h; exact lT_and r true h
theorem f1005_eq (x0 x1 : Int) (x2 x3 : ByteArray) (x4 x5 : Int) (x6 : ByteArray) (x7 : List RT) : Sp.f1005 x0 x1 x2 x3 x4 x5 x6 x7 = (Sp.conjS (Sp.mkT (x0, x1, x2, x3, x4, x5, x6, x7)), ()) := by
  unfold Sp.f1005 Sp.conjS
  rw [okT_eq]
  cases Sp.okT (Sp.mkT (x0, x1, x2, x3, x4, x5, x6, x7)) <;> rfl
theorem conjP_mk {r : RT} (h : Sp.cntTs r.kids ≤ 1048576) : Sp.conjP r = true := by
  unfold Sp.conjP
  cases hk : Sp.okT r with
  | false => rfl
  | true => rw [cond_true, fitTs_cnt (by omega), cnt32_mk (by omega), okT_and hk]; rfl
theorem f1005_preK (x0 x1 : Int) (x2 x3 : ByteArray) (x4 x5 : Int) (x6 : ByteArray) (x7 : List RT) (hs : Sp.strT (Sp.mkT (x0, x1, x2, x3, x4, x5, x6, x7)) = true) (h : Sp.cntTs x7 ≤ 1048576) : Sp.f1005_pre x0 x1 x2 x3 x4 x5 x6 x7 = true := by
  have hP := conjP_mk (r := Sp.mkT (x0, x1, x2, x3, x4, x5, x6, x7)) h
  unfold Sp.conjP at hP
  have hP : (bif Sp.okT (Sp.mkT (x0, x1, x2, x3, x4, x5, x6, x7)) then (Sp.fitTs x7 && (Sp.cnt32 x7 && Sp.andT (Sp.mkT (x0, x1, x2, x3, x4, x5, x6, x7)))) else true) = true := hP
  unfold Sp.f1005_pre Sp.f1016_pre Sp.f1020_pre
  rw [okT_eq, hs, cnt32_mk (by omega)]
  rw [cnt32_mk (by omega)] at hP
  revert hP
  generalize Sp.okT (Sp.mkT (x0, x1, x2, x3, x4, x5, x6, x7)) = b1, Sp.deepT (Sp.mkT (x0, x1, x2, x3, x4, x5, x6, x7)) 20 = b2, (Sp.f1020 x0 x1 x2 x3 x4 x5 x6 x7).1 = b3
  generalize (Sp.fitTs x7 && (true && Sp.andT (Sp.mkT (x0, x1, x2, x3, x4, x5, x6, x7)))) = b4
  intro hP
  cases b1 <;> cases b2 <;> cases b3 <;> cases b4 <;> first | rfl | cases hP
theorem cnt_conjS (r : RT) : Sp.cntTs (Sp.conjS r).1 ≤ Sp.cntT r := by
  unfold Sp.conjS
  cases Sp.okT r with
  | true => exact cnt_conj r
  | false => show Sp.cntTs [] ≤ _; rw [Sp.cntTs]; exact Nat.zero_le _
theorem law1001_pre (x0 x1 : Int) (x2 x3 : ByteArray) (x4 x5 : Int) (x6 : ByteArray) (x7 : List RT) (hw : Wf tT (Sp.mkT (x0, x1, x2, x3, x4, x5, x6, x7))) : Sp.f1001_pre x0 x1 x2 x3 x4 x5 x6 x7 = true := by
  unfold Sp.f1001_pre
  by_cases hz : Sp.szT (Sp.mkT (x0, x1, x2, x3, x4, x5, x6, x7)) 1048576 < 0
  · rw [decide_eq_true hz, cond_true]
  have h1 := szT_wt _ hw 1048576 (by omega) (by omega) (by omega)
  have h1 : Sp.szT (Sp.mkT (x0, x1, x2, x3, x4, x5, x6, x7)) 1048576 + (Sp.cntTs x7 : Int) ≤ 1048576 := h1
  have hc : Sp.cntTs x7 ≤ 1048576 := by omega
  have hk : 1 + Sp.cntTs x7 = Sp.cntT (Sp.mkT (x0, x1, x2, x3, x4, x5, x6, x7)) := cnt_kids (Sp.mkT (x0, x1, x2, x3, x4, x5, x6, x7))
  have hcc := cnt_conjS (Sp.mkT (x0, x1, x2, x3, x4, x5, x6, x7))
  rw [decide_eq_false hz, cond_false, f1005_eq, f1005_preK x0 x1 x2 x3 x4 x5 x6 x7 (strT_of _ hw) hc, conjP_mk (r := Sp.mkT (x0, x1, x2, x3, x4, x5, x6, x7)) hc, fitTs_cnt (l := x7) (by omega)]
  unfold Sp.f1008_pre
  rw [smallTs_mk (l := x7) (by omega), smallTs_mk (l := (Sp.conjS (Sp.mkT (x0, x1, x2, x3, x4, x5, x6, x7))).1) (by omega), smallTs_mark (l := (Sp.conjS (Sp.mkT (x0, x1, x2, x3, x4, x5, x6, x7))).1) (by omega)]
  simp
theorem law1001 (x0 x1 : Int) (x2 x3 : ByteArray) (x4 x5 : Int) (x6 : ByteArray) (x7 : List RT) : (Sp.f1001 x0 x1 x2 x3 x4 x5 x6 x7).1 = true := by
  unfold Sp.f1001
  rw [f1005_eq, eqTs_self, eqT_self, heldTs_mark _ 1 (by omega)]
  unfold Sp.f1008
  have h1 : ∀ l : List RT, decide (Sp.addTs l 1 < 0) = false := fun l => decide_eq_false (by unfold Sp.addTs; omega)
  have h2 : ((Sp.conjS (Sp.mkT (x0, x1, x2, x3, x4, x5, x6, x7))).2 != (Sp.conjS (Sp.mkT (x0, x1, x2, x3, x4, x5, x6, x7))).2) = false := by simp
  have h3 : ∀ l : List RT, (Sp.addTs l 1 != Sp.addTs l 1) = false := fun l => by simp
  dsimp only
  rw [h1, h1, h2, h3]
  cases decide (Sp.szT (Sp.mkT (x0, x1, x2, x3, x4, x5, x6, x7)) 1048576 < 0) <;> rfl
end Go.Proofs.GR.T

