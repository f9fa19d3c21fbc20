/-
  No statement is proved here: what the functions of the law answer, told as plain functions, and that the law's answer is always true.
  No condition.
-/
import Derived.Test.YtfihkpknhkbciaaDoorTTablesReade
set_option maxRecDepth 3000000
set_option maxHeartbeats 100000000
namespace Go.Proofs.GR.T
open Go Go.Proofs Go.Proofs.GR
def Sp.mtS (t : ByteArray) : Bool := t.toList == (ByteArray.mk #[]).toList
def Sp.noVal (x4 x5 : Int) (x6 : ByteArray) : Bool := Go.Proofs.GR.eqI x4 (0 : Int) && (Go.Proofs.GR.eqI x5 (0 : Int) && (Go.Proofs.GR.eqS x6 ByteArray.empty && true))
def Sp.hasX (x1 : Int) (x2 x3 : ByteArray) (x4 x5 : Int) (x6 : ByteArray) (x7 : List RT) (n nm o v : Bool) (k : Int) : Bool :=
  bif (bif n then true else x1 == (0 : Int)) then bif (bif nm then true else Sp.mtS x2) then bif (bif o then true else Sp.mtS x3) then bif (bif v then true else Sp.noVal x4 x5 x6) then (bif decide (k < (0 : Int)) then true else (x7.length : Int) == k) else false else false else false else false
theorem has_is (x0 x1 : Int) (x2 x3 : ByteArray) (x4 x5 : Int) (x6 : ByteArray) (x7 : List RT) (n nm o v : Bool) (k : Int) : (Sp.f1028 x0 x1 x2 x3 x4 x5 x6 x7 n nm o v k).1 = Sp.hasX x1 x2 x3 x4 x5 x6 x7 n nm o v k := by
  unfold Sp.f1028 Sp.hasX Sp.mtS Sp.noVal
  generalize (Go.Proofs.GR.eqI x4 (0 : Int) && (Go.Proofs.GR.eqI x5 (0 : Int) && (Go.Proofs.GR.eqS x6 ByteArray.empty && true))) = c4
  generalize (x3.toList == (ByteArray.mk #[]).toList) = c3
  generalize (x2.toList == (ByteArray.mk #[]).toList) = c2
  generalize (x1 == (0 : Int)) = c1
  generalize decide (k < (0 : Int)) = c0
  generalize ((x7.length : Int) == k) = c5
  cases n <;> cases nm <;> cases o <;> cases v <;> cases c1 <;> cases c2 <;> cases c3 <;> cases c4 <;> cases c0 <;> rfl
theorem has_one {x1 : Int} {x2 x3 : ByteArray} {x4 x5 : Int} {x6 : ByteArray} {x7 : List RT} {n nm o v : Bool} (h : Sp.hasX x1 x2 x3 x4 x5 x6 x7 n nm o v 1 = true) : x7.length = 1 := by
  unfold Sp.hasX at h
  have e : decide ((1 : Int) < 0) = false := rfl
  rw [e, cond_false] at h
  cases h5 : (x7.length : Int) == 1 with
  | true => have := eq_of_beq h5; omega
  | false =>
    rw [h5] at h
    revert h
    generalize (bif n then true else x1 == (0 : Int)) = c1
    generalize (bif nm then true else Sp.mtS x2) = c2
    generalize (bif o then true else Sp.mtS x3) = c3
    generalize (bif v then true else Sp.noVal x4 x5 x6) = c4
    intro h
    cases c1 <;> cases c2 <;> cases c3 <;> cases c4 <;> cases h
def Sp.k0 (ks : List RT) : RT := ks.getD 0 ZR
theorem k0_mem {ks : List RT} (h : ks.length = 1) : Sp.k0 ks ∈ ks := by
  match ks, h with
  | [r], _ => exact List.mem_cons_self
def Sp.partB (r : RT) : Bool := (Sp.f1159 r.a.1 r.a.2.1 r.a.2.2.1 r.a.2.2.2.1 r.a.2.2.2.2.1 r.a.2.2.2.2.2.1 r.a.2.2.2.2.2.2 r.kids).1
def Sp.partP (r : RT) : Bool := Sp.f1159_pre r.a.1 r.a.2.1 r.a.2.2.1 r.a.2.2.2.1 r.a.2.2.2.2.1 r.a.2.2.2.2.2.1 r.a.2.2.2.2.2.2 r.kids
theorem s63_f {t : ByteArray} (h : Sp.s63 t = true) : Sp.f1029_pre t = true := h
theorem s63_g {t : ByteArray} (h : Sp.s63 t = true) : Sp.f1030_pre t = true := by
  have h1 : Sp.f1029_pre t = true := h
  unfold Sp.f1030_pre
  rw [h1]
  cases t.toList == (ByteArray.mk #[]).toList <;> rfl
theorem strT_parts {r : RT} (h : Sp.strT r = true) : Sp.s63 r.a.2.2.1 = true ∧ Sp.s63 r.a.2.2.2.1 = true ∧ Sp.strTs r.kids = true := by
  cases r with
  | mk a ks =>
    rw [Sp.strT] at h
    obtain ⟨h1, h⟩ := Bool.and_eq_true_iff.1 h
    exact ⟨h1, Bool.and_eq_true_iff.1 h⟩
theorem cond_t (c : Bool) {x : Bool} (h : c = true → x = true) : (bif c then x else true) = true := by
  cases c with
  | true => exact h rfl
  | false => rfl
theorem partP_of {r : RT} (h : Sp.strT r = true) : Sp.partP r = true := by
  obtain ⟨h1, h2, h3⟩ := strT_parts h
  have p1 := s63_f h1
  have p2 := s63_g h1
  have p3 := s63_g h2
  have e : Sp.mkT ((Sp.k0 r.kids).a.1, (Sp.k0 r.kids).a.2.1, (Sp.k0 r.kids).a.2.2.1, (Sp.k0 r.kids).a.2.2.2.1, (Sp.k0 r.kids).a.2.2.2.2.1, (Sp.k0 r.kids).a.2.2.2.2.2.1, (Sp.k0 r.kids).a.2.2.2.2.2.2, (Sp.k0 r.kids).kids) = Sp.k0 r.kids := mkT_un _
  have q : ∀ n nm o v, (Sp.f1028 r.a.1 r.a.2.1 r.a.2.2.1 r.a.2.2.2.1 r.a.2.2.2.2.1 r.a.2.2.2.2.2.1 r.a.2.2.2.2.2.2 r.kids n nm o v 1).1 = true → (decide ((0 : Int) < (r.kids.length : Int)) && Sp.strT (Sp.mkT ((Sp.k0 r.kids).a.1, (Sp.k0 r.kids).a.2.1, (Sp.k0 r.kids).a.2.2.1, (Sp.k0 r.kids).a.2.2.2.1, (Sp.k0 r.kids).a.2.2.2.2.1, (Sp.k0 r.kids).a.2.2.2.2.2.1, (Sp.k0 r.kids).a.2.2.2.2.2.2, (Sp.k0 r.kids).kids))) = true := fun n nm o v hh => by
    rw [has_is] at hh
    have hl := has_one hh
    rw [e, decide_eq_true (show (0 : Int) < (r.kids.length : Int) by omega), strTs_mem h3 (k0_mem hl)]
    rfl
  have q9 : Sp.f1026a_pre r.kids = true := h3
  unfold Sp.partP Sp.f1159_pre
  have and_t : ∀ {a b : Bool}, a = true → b = true → (a && b) = true := fun ha hb => by rw [ha, hb]; rfl
  have c12 := fun (x : Bool) => x
  have g5 := cond_t (Sp.f1028 r.a.1 r.a.2.1 r.a.2.2.1 r.a.2.2.2.1 r.a.2.2.2.2.1 r.a.2.2.2.2.2.1 r.a.2.2.2.2.2.2 r.kids false true false false 1).1 (fun hh => and_t p2 (cond_t (Sp.f1030 r.a.2.2.1).1 fun _ => q _ _ _ _ hh))
  have g6 := cond_t (Sp.f1028 r.a.1 r.a.2.1 r.a.2.2.1 r.a.2.2.2.1 r.a.2.2.2.2.1 r.a.2.2.2.2.2.1 r.a.2.2.2.2.2.2 r.kids false true true false 0).1 (fun _ => and_t p1 (cond_t (Sp.f1029 r.a.2.2.1).1 fun _ => p3))
  have g7 := cond_t (Sp.f1028 r.a.1 r.a.2.1 r.a.2.2.1 r.a.2.2.2.1 r.a.2.2.2.2.1 r.a.2.2.2.2.2.1 r.a.2.2.2.2.2.2 r.kids false false false false 1).1 (fun hh => q _ _ _ _ hh)
  have g9 := cond_t (Sp.f1028 r.a.1 r.a.2.1 r.a.2.2.1 r.a.2.2.2.1 r.a.2.2.2.2.1 r.a.2.2.2.2.2.1 r.a.2.2.2.2.2.2 r.kids false false false false (-1)).1 (fun _ => cond_t (decide ((r.kids.length : Int) > 0)) fun _ => q9)
  have g10 := cond_t (Sp.f1028 r.a.1 r.a.2.1 r.a.2.2.1 r.a.2.2.2.1 r.a.2.2.2.2.1 r.a.2.2.2.2.2.1 r.a.2.2.2.2.2.2 r.kids true false false false 1).1 (fun hh => cond_t (Sp.f70 r.a.2.1 0 1).1 fun _ => q _ _ _ _ hh)
  have g12 := cond_t (Sp.f1028 r.a.1 r.a.2.1 r.a.2.2.1 r.a.2.2.2.1 r.a.2.2.2.2.1 r.a.2.2.2.2.2.1 r.a.2.2.2.2.2.2 r.kids false true false false 1).1 (fun hh => and_t p1 (cond_t (Sp.f1029 r.a.2.2.1).1 fun _ => q _ _ _ _ hh))
  cases r.a.1 == (5 : Int) with
  | true => exact g5
  | false =>
    cases r.a.1 == (6 : Int) with
    | true => exact g6
    | false =>
      cases r.a.1 == (7 : Int) with
      | true => exact g7
      | false =>
        cases r.a.1 == (8 : Int) with
        | true => exact g7
        | false =>
          cases r.a.1 == (9 : Int) with
          | true => exact g9
          | false =>
            cases r.a.1 == (10 : Int) with
            | true => exact g10
            | false =>
              cases r.a.1 == (11 : Int) with
              | true => rfl
              | false =>
                cases r.a.1 == (12 : Int) with
                | true => exact g12
                | false => rfl
def Sp.letter (k : Int) : Int := (strBytes (ByteArray.mk #[105, 116, 111, 119, 103, 114, 108, 115])).getD (IntKind.i64.wrap (k - (5 : Int))).toNat (0 : Int)
def Sp.kdB (r : RT) : Bool := bif !(Sp.f70 r.a.1 (5 : Int) (12 : Int)).1 then false else Sp.partB r
def Sp.kds : List RT → List Int → ByteArray
  | [], acc => bytesStr acc
  | r :: l, acc => bif !Sp.kdB r then ByteArray.mk #[63] else Sp.kds l (acc ++ [Sp.letter r.a.1])
def Sp.kdsP (ks : List RT) : Bool := yes2 (Sp.strTs ks) (Sp.fits32 ks)
abbrev rTx (t : ByteArray) : Res := Res.mk [ZX Ty.str t] []
def Sp.kds0 (ks : List RT) : ByteArray := Sp.kds ks []
noncomputable def e1057 : Ent := { f := n1057, ins := [Sh.agg aT], outs := [Sh.one cS], upd := [], pre := fun a => Sp.kdsP a.2.2.2.2.2.2.2, spec := fun a => Sp.kds0 a.2.2.2.2.2.2.2, wrt := fun _ => () }
theorem f70_is {i lo hi : Int} (h : (Sp.f70 i lo hi).1 = true) : lo ≤ i ∧ i ≤ hi := by
  have h : (bif decide (i ≥ lo) then (decide (i ≤ hi), ()) else (false, ())).1 = true := h
  by_cases h0 : i ≥ lo
  · rw [decide_eq_true h0, cond_true] at h
    exact ⟨h0, of_decide_eq_true h⟩
  · rw [decide_eq_false h0, cond_false] at h; cases h
theorem kds_loop (n : Nat) (xs : List RT) (hs : Sp.strTs xs = true) (hx : xs.length ≤ 1000000000000) : ∀ (d k m : Nat) (acc : List Int), k + d = xs.length → d < m → acc.length ≤ k → f1057_L0 n m xs xs.length k acc = some (rTx (Sp.kds (xs.drop k) acc)) := by
  intro d
  induction d with
  | zero =>
    intro k m acc hk hm _
    obtain ⟨m, rfl⟩ := succ_of hm
    rw [f1057_L0_step, nat_ge (by omega), cond_false, List.drop_of_length_le (by omega), Sp.kds]
  | succ d ih =>
    intro k m acc hk hm ha
    obtain ⟨m, rfl⟩ := succ_of hm
    have hlt : k < xs.length := by omega
    have hp := partP_of (strTs_mem hs (List.getElem_mem hlt))
    have ih2 := fun y => ih (k + 1) m (acc ++ [y]) (by omega) (by omega) (by rw [List.length_append, List.length_singleton]; omega)
    have hc : ∀ y : Int, decide ((acc.length + [y].length) * (1 : Nat) ≤ (140737488355328 : Nat)) = true := fun y => decide_eq_true (by rw [List.length_singleton]; omega)
    rw [f1057_L0_step, nat_lt hlt, cond_true, guard0, chkT, getD_nat xs k _ hlt, next64 hlt (by omega), hc, chkT, ih2, List.drop_eq_getElem_cons hlt, Sp.kds]
    show (bif !(Sp.f70 xs[k].a.1 (5 : Int) (12 : Int)).1 then _ else chk (Sp.partP xs[k]) (bif !Sp.partB xs[k] then _ else chk _ _)) = _
    rw [hp, chkT]
    unfold Sp.kdB
    cases hw : (Sp.f70 xs[k].a.1 (5 : Int) (12 : Int)).1 with
    | false => rfl
    | true =>
      have := f70_is hw
      rw [wrap64 (n := xs[k].a.1 - 5) (by omega) (by omega), decide_eq_true (show (0 : Int) ≤ xs[k].a.1 - 5 by omega), decide_eq_true (show xs[k].a.1 - 5 < 8 by omega), Bool.and_self, chkT]
      have e : Sp.letter xs[k].a.1 = (strBytes (ByteArray.mk #[105, 116, 111, 119, 103, 114, 108, 115])).getD (xs[k].a.1 - 5).toNat (0 : Int) := by
        unfold Sp.letter
        rw [wrap64 (n := xs[k].a.1 - 5) (by omega) (by omega)]
      rw [e]
      cases Sp.partB xs[k] <;> rfl
theorem e1057_core (x0 x1 : Int) (x2 x3 : ByteArray) (x4 x5 : Int) (x6 : ByteArray) (x7 : List RT) (h : Sp.kdsP x7 = true) : ∃ n, abody Γ (orc [e70, e1159]) n n1057 (e1057.args (x0, x1, x2, x3, x4, x5, x6, x7)) = some (e1057.res (x0, x1, x2, x3, x4, x5, x6, x7)) := by
  obtain ⟨h1, h2⟩ := yes2_true h
  refine ⟨x7.length + 1, (f1057_raw _ x0 x1 x2 x3 x4 x5 x6 x7).trans ?_⟩
  exact kds_loop _ x7 h1 (fits32_of h2) x7.length 0 _ [] (Nat.zero_add _) (Nat.lt_succ_self _) (Nat.zero_le _)
theorem e1057_ok : Valid PP Γ e1057 := valid_of ok (vcons e70_ok (vcons e1159_ok vnil)) fun a ha => e1057_core a.1 a.2.1 a.2.2.1 a.2.2.2.1 a.2.2.2.2.1 a.2.2.2.2.2.1 a.2.2.2.2.2.2.1 a.2.2.2.2.2.2.2 ha
def Sp.f1126_pre (x0 x1 : Int) (x2 x3 : ByteArray) (x4 x5 : Int) (x6 : ByteArray) (x7 : List ZT) : Bool := (Sp.kdsP x7 && (Sp.cutP (ByteArray.mk #[105]) (120 : Int) && (Sp.cutP (ByteArray.mk #[116]) (2 : Int) && (Sp.cutP (ByteArray.mk #[111]) (1 : Int) && (Sp.cutP (ByteArray.mk #[119]) (1 : Int) && (Sp.cutP (ByteArray.mk #[103]) (1 : Int) && (Sp.cutP (ByteArray.mk #[114]) (120 : Int) && (Sp.cutP (ByteArray.mk #[108]) (1 : Int)))))))))
def Sp.f1126 (x0 x1 : Int) (x2 x3 : ByteArray) (x4 x5 : Int) (x6 : ByteArray) (x7 : List ZT) := (bif (Sp.cut (Sp.cut (Sp.cut (Sp.cut (Sp.cut (Sp.cut (Sp.cut (Sp.kds0 x7) (ByteArray.mk #[105]) (120 : Int)).1 (ByteArray.mk #[116]) (2 : Int)).1 (ByteArray.mk #[111]) (1 : Int)).1 (ByteArray.mk #[119]) (1 : Int)).1 (ByteArray.mk #[103]) (1 : Int)).1 (ByteArray.mk #[114]) (120 : Int)).1 (ByteArray.mk #[108]) (1 : Int)).1.toList == (ByteArray.mk #[]).toList then (bif decide ((Sp.cut (Sp.kds0 x7) (ByteArray.mk #[105]) (120 : Int)).2 > (0 : Int)) then ((Sp.cut (Sp.cut (Sp.kds0 x7) (ByteArray.mk #[105]) (120 : Int)).1 (ByteArray.mk #[116]) (2 : Int)).2 == IntKind.i64.wrap ((Sp.cut (Sp.cut (Sp.cut (Sp.kds0 x7) (ByteArray.mk #[105]) (120 : Int)).1 (ByteArray.mk #[116]) (2 : Int)).1 (ByteArray.mk #[111]) (1 : Int)).2 + (1 : Int)), ()) else (false, ())) else (false, ()))
noncomputable def e1126 : Ent := { f := 33, ins := [Sh.agg [C0.dat Zi, C0.dat Zi, C0.dat Ty.str, C0.dat Ty.str, C0.dat Zi, C0.dat Zi, C0.dat Ty.str, C0.dat ZA.rose.slice]], outs := [Sh.one (C0.dat Ty.bool)], upd := [], pre := fun a => Sp.f1126_pre a.1 a.2.1 a.2.2.1 a.2.2.2.1 a.2.2.2.2.1 a.2.2.2.2.2.1 a.2.2.2.2.2.2.1 a.2.2.2.2.2.2.2, spec := fun a => (Sp.f1126 a.1 a.2.1 a.2.2.1 a.2.2.2.1 a.2.2.2.2.1 a.2.2.2.2.2.1 a.2.2.2.2.2.2.1 a.2.2.2.2.2.2.2).1, wrt := fun a => (Sp.f1126 a.1 a.2.1 a.2.2.1 a.2.2.2.1 a.2.2.2.2.1 a.2.2.2.2.2.1 a.2.2.2.2.2.2.1 a.2.2.2.2.2.2.2).2 }
def f1126_g (v : denS [Sh.one (C0.dat Ty.bool)] × denS []) : Res := ⟨mkS [Sh.one (C0.dat Ty.bool)] v.1, mkU [] v.2⟩
theorem f1126_form (x0 x1 : Int) (x2 x3 : ByteArray) (x4 x5 : Int) (x6 : ByteArray) (x7 : List ZT) : abody Γ (orc [e1057, e1128]) 0 33 [XV.mk true [ZC Zi x0, ZC Zi x1, ZC Ty.str x2, ZC Ty.str x3, ZC Zi x4, ZC Zi x5, ZC Ty.str x6, ZC ZA.rose.slice x7]] = chk (Sp.f1126_pre x0 x1 x2 x3 x4 x5 x6 x7) (some (f1126_g (Sp.f1126 x0 x1 x2 x3 x4 x5 x6 x7))) := by
  refine Eq.trans (b := chk (Sp.kdsP x7) (chk (Sp.cutP (ByteArray.mk #[105]) (120 : Int)) (chk (Sp.cutP (ByteArray.mk #[116]) (2 : Int)) (chk (Sp.cutP (ByteArray.mk #[111]) (1 : Int)) (chk (Sp.cutP (ByteArray.mk #[119]) (1 : Int)) (chk (Sp.cutP (ByteArray.mk #[103]) (1 : Int)) (chk (Sp.cutP (ByteArray.mk #[114]) (120 : Int)) (chk (Sp.cutP (ByteArray.mk #[108]) (1 : Int)) (bif (Sp.cut (Sp.cut (Sp.cut (Sp.cut (Sp.cut (Sp.cut (Sp.cut (Sp.kds0 x7) (ByteArray.mk #[105]) (120 : Int)).1 (ByteArray.mk #[116]) (2 : Int)).1 (ByteArray.mk #[111]) (1 : Int)).1 (ByteArray.mk #[119]) (1 : Int)).1 (ByteArray.mk #[103]) (1 : Int)).1 (ByteArray.mk #[114]) (120 : Int)).1 (ByteArray.mk #[108]) (1 : Int)).1.toList == (ByteArray.mk #[]).toList then bif decide ((Sp.cut (Sp.kds0 x7) (ByteArray.mk #[105]) (120 : Int)).2 > (0 : Int)) then ZB ((Sp.cut (Sp.cut (Sp.kds0 x7) (ByteArray.mk #[105]) (120 : Int)).1 (ByteArray.mk #[116]) (2 : Int)).2 == IntKind.i64.wrap ((Sp.cut (Sp.cut (Sp.cut (Sp.kds0 x7) (ByteArray.mk #[105]) (120 : Int)).1 (ByteArray.mk #[116]) (2 : Int)).1 (ByteArray.mk #[111]) (1 : Int)).2 + (1 : Int))) else Zf else Zf))))))))) (by kernel_rfl) ?_
  unfold Sp.f1126_pre Sp.f1126
  exact (chk_step ((chk_step ((chk_step ((chk_step ((chk_step ((chk_step ((chk_step ((chk_last ((cond_plain f1126_g ((cond_plain f1126_g (rfl) (rfl))) (rfl))))))))))))))))))
theorem e1126_ok : Valid PP Γ e1126 := valid_auto ok (vcons e1057_ok (vcons e1128_ok vnil)) fun a => f1126_form a.1 a.2.1 a.2.2.1 a.2.2.2.1 a.2.2.2.2.1 a.2.2.2.2.2.1 a.2.2.2.2.2.2.1 a.2.2.2.2.2.2.2

def Sp.f1098_pre (x0 x1 : Int) (x2 x3 : ByteArray) (x4 x5 : Int) (x6 : ByteArray) (x7 : List ZT) : Bool := (Sp.f1020_pre x0 x1 x2 x3 x4 x5 x6 x7 && (bif !(Sp.f1020 x0 x1 x2 x3 x4 x5 x6 x7).1 then true else (bif x0 == (1 : Int) then (bif (Sp.f1028 x0 x1 x2 x3 x4 x5 x6 x7 false false false false (-1 : Int)).1 then (Sp.f1126_pre x0 x1 x2 x3 x4 x5 x6 x7) else true) else (bif !(Sp.f1028 x0 x1 x2 x3 x4 x5 x6 x7 false true false false (-1 : Int)).1 then true else (Sp.f1029_pre x2 && (bif !(Sp.f1029 x2).1 then true else (bif x0 == (2 : Int) then (bif decide ((↑x7.length : Int) > (0 : Int)) then (Sp.f1026b_pre x7) else true) else (bif x0 == (3 : Int) then (Sp.kdsP x7 && (Sp.cutP (ByteArray.mk #[115]) (120 : Int) && (Sp.cutP (ByteArray.mk #[119]) (1 : Int)))) else (bif x0 == (4 : Int) then (Sp.kdsP x7 && (Sp.cutP (ByteArray.mk #[119]) (1 : Int))) else true)))))))))
def Sp.f1098 (x0 x1 : Int) (x2 x3 : ByteArray) (x4 x5 : Int) (x6 : ByteArray) (x7 : List ZT) := (bif !(Sp.f1020 x0 x1 x2 x3 x4 x5 x6 x7).1 then (false, ()) else (bif x0 == (1 : Int) then (bif (Sp.f1028 x0 x1 x2 x3 x4 x5 x6 x7 false false false false (-1 : Int)).1 then ((Sp.f1126 x0 x1 x2 x3 x4 x5 x6 x7).1, ()) else (false, ())) else (bif !(Sp.f1028 x0 x1 x2 x3 x4 x5 x6 x7 false true false false (-1 : Int)).1 then (false, ()) else (bif !(Sp.f1029 x2).1 then (false, ()) else (bif x0 == (2 : Int) then (bif decide ((↑x7.length : Int) > (0 : Int)) then (!(Sp.f1026b x7).1, ()) else (false, ())) else (bif x0 == (3 : Int) then (bif (Sp.cut (Sp.cut (Sp.kds0 x7) (ByteArray.mk #[115]) (120 : Int)).1 (ByteArray.mk #[119]) (1 : Int)).1.toList == (ByteArray.mk #[]).toList then (decide ((Sp.cut (Sp.kds0 x7) (ByteArray.mk #[115]) (120 : Int)).2 > (0 : Int)), ()) else (false, ())) else (bif x0 == (4 : Int) then ((Sp.cut (Sp.kds0 x7) (ByteArray.mk #[119]) (1 : Int)).1.toList == (ByteArray.mk #[]).toList, ()) else (false, ()))))))))
noncomputable def e1098 : Ent := { f := 19, ins := [Sh.agg [C0.dat Zi, C0.dat Zi, C0.dat Ty.str, C0.dat Ty.str, C0.dat Zi, C0.dat Zi, C0.dat Ty.str, C0.dat ZA.rose.slice]], outs := [Sh.one (C0.dat Ty.bool)], upd := [], pre := fun a => Sp.f1098_pre a.1 a.2.1 a.2.2.1 a.2.2.2.1 a.2.2.2.2.1 a.2.2.2.2.2.1 a.2.2.2.2.2.2.1 a.2.2.2.2.2.2.2, spec := fun a => (Sp.f1098 a.1 a.2.1 a.2.2.1 a.2.2.2.1 a.2.2.2.2.1 a.2.2.2.2.2.1 a.2.2.2.2.2.2.1 a.2.2.2.2.2.2.2).1, wrt := fun a => (Sp.f1098 a.1 a.2.1 a.2.2.1 a.2.2.2.1 a.2.2.2.2.1 a.2.2.2.2.2.1 a.2.2.2.2.2.2.1 a.2.2.2.2.2.2.2).2 }
def f1098_g (v : denS [Sh.one (C0.dat Ty.bool)] × denS []) : Res := ⟨mkS [Sh.one (C0.dat Ty.bool)] v.1, mkU [] v.2⟩
theorem f1098_form (x0 x1 : Int) (x2 x3 : ByteArray) (x4 x5 : Int) (x6 : ByteArray) (x7 : List ZT) : abody Γ (orc [e1020, e1028, e1126, e1029, e1026a, e1026b, e1026d, e1127, e1057, e1128]) 0 19 [XV.mk true [ZC Zi x0, ZC Zi x1, ZC Ty.str x2, ZC Ty.str x3, ZC Zi x4, ZC Zi x5, ZC Ty.str x6, ZC ZA.rose.slice x7]] = chk (Sp.f1098_pre x0 x1 x2 x3 x4 x5 x6 x7) (some (f1098_g (Sp.f1098 x0 x1 x2 x3 x4 x5 x6 x7))) := by
  refine Eq.trans (b := chk (Sp.f1020_pre x0 x1 x2 x3 x4 x5 x6 x7) (bif !(Sp.f1020 x0 x1 x2 x3 x4 x5 x6 x7).1 then Zf else bif x0 == (1 : Int) then bif (Sp.f1028 x0 x1 x2 x3 x4 x5 x6 x7 false false false false (-1 : Int)).1 then chk (Sp.f1126_pre x0 x1 x2 x3 x4 x5 x6 x7) (ZB (Sp.f1126 x0 x1 x2 x3 x4 x5 x6 x7).1) else Zf else bif !(Sp.f1028 x0 x1 x2 x3 x4 x5 x6 x7 false true false false (-1 : Int)).1 then Zf else chk (Sp.f1029_pre x2) (bif !(Sp.f1029 x2).1 then Zf else bif x0 == (2 : Int) then bif decide ((↑x7.length : Int) > (0 : Int)) then chk (Sp.f1026b_pre x7) (some (Res.mk [XV.mk false [X.c (X0.dat Ty.bool !(Sp.f1026b x7).1)]] [])) else Zf else bif x0 == (3 : Int) then chk (Sp.kdsP x7) (chk (Sp.cutP (ByteArray.mk #[115]) (120 : Int)) (chk (Sp.cutP (ByteArray.mk #[119]) (1 : Int)) (bif (Sp.cut (Sp.cut (Sp.kds0 x7) (ByteArray.mk #[115]) (120 : Int)).1 (ByteArray.mk #[119]) (1 : Int)).1.toList == (ByteArray.mk #[]).toList then ZB (decide ((Sp.cut (Sp.kds0 x7) (ByteArray.mk #[115]) (120 : Int)).2 > (0 : Int))) else Zf))) else bif x0 == (4 : Int) then chk (Sp.kdsP x7) (chk (Sp.cutP (ByteArray.mk #[119]) (1 : Int)) (ZB ((Sp.cut (Sp.kds0 x7) (ByteArray.mk #[119]) (1 : Int)).1.toList == (ByteArray.mk #[]).toList))) else Zf))) (by kernel_rfl) ?_
  unfold Sp.f1098_pre Sp.f1098
  exact (chk_step ((cond_step f1098_g ((lift_plain (rfl))) ((cond_step f1098_g ((cond_step f1098_g ((chk_last (rfl))) ((lift_plain (rfl))))) ((cond_step f1098_g ((lift_plain (rfl))) ((chk_step ((cond_step f1098_g ((lift_plain (rfl))) ((cond_step f1098_g ((cond_step f1098_g ((chk_last (rfl))) ((lift_plain (rfl))))) ((cond_step f1098_g ((chk_step ((chk_step ((chk_last ((cond_plain f1098_g (rfl) (rfl))))))))) ((cond_step f1098_g ((chk_step ((chk_last (rfl))))) ((lift_plain (rfl))))))))))))))))))))
theorem e1098_ok : Valid PP Γ e1098 := valid_auto ok (vcons e1020_ok (vcons e1028_ok (vcons e1126_ok (vcons e1029_ok (vcons e1026a_ok (vcons e1026b_ok (vcons e1026d_ok (vcons e1127_ok (vcons e1057_ok (vcons e1128_ok vnil)))))))))) fun a => f1098_form a.1 a.2.1 a.2.2.1 a.2.2.2.1 a.2.2.2.2.1 a.2.2.2.2.2.1 a.2.2.2.2.2.2.1 a.2.2.2.2.2.2.2

def Sp.f1074_pre (x0 x1 : Int) (x2 x3 : ByteArray) (x4 x5 : Int) (x6 : ByteArray) (x7 : List ZT) : Bool := (Sp.f1098_pre x0 x1 x2 x3 x4 x5 x6 x7 && (bif !(Sp.f1098 x0 x1 x2 x3 x4 x5 x6 x7).1 then true else (Sp.cnt32 x7)))
def Sp.f1074 (x0 x1 : Int) (x2 x3 : ByteArray) (x4 x5 : Int) (x6 : ByteArray) (x7 : List ZT) := (bif !(Sp.f1098 x0 x1 x2 x3 x4 x5 x6 x7).1 then (([], (1 : Int)), ()) else ((Sp.readI x0 x2 x7, (0 : Int)), ()))
noncomputable def e1074 : Ent := { f := 7, ins := [Sh.agg [C0.dat Zi, C0.dat Zi, C0.dat Ty.str, C0.dat Ty.str, C0.dat Zi, C0.dat Zi, C0.dat Ty.str, C0.dat ZA.rose.slice]], outs := [Sh.one (C0.row Ty.str), Sh.one ZI], upd := [], pre := fun a => Sp.f1074_pre a.1 a.2.1 a.2.2.1 a.2.2.2.1 a.2.2.2.2.1 a.2.2.2.2.2.1 a.2.2.2.2.2.2.1 a.2.2.2.2.2.2.2, spec := fun a => (Sp.f1074 a.1 a.2.1 a.2.2.1 a.2.2.2.1 a.2.2.2.2.1 a.2.2.2.2.2.1 a.2.2.2.2.2.2.1 a.2.2.2.2.2.2.2).1, wrt := fun a => (Sp.f1074 a.1 a.2.1 a.2.2.1 a.2.2.2.1 a.2.2.2.2.1 a.2.2.2.2.2.1 a.2.2.2.2.2.2.1 a.2.2.2.2.2.2.2).2 }
def f1074_g (v : denS [Sh.one (C0.row Ty.str), Sh.one ZI] × denS []) : Res := ⟨mkS [Sh.one (C0.row Ty.str), Sh.one ZI] v.1, mkU [] v.2⟩
theorem f1074_form (x0 x1 : Int) (x2 x3 : ByteArray) (x4 x5 : Int) (x6 : ByteArray) (x7 : List ZT) : abody Γ (orc [e1098, e1099]) 0 7 [XV.mk true [ZC Zi x0, ZC Zi x1, ZC Ty.str x2, ZC Ty.str x3, ZC Zi x4, ZC Zi x5, ZC Ty.str x6, ZC ZA.rose.slice x7]] = chk (Sp.f1074_pre x0 x1 x2 x3 x4 x5 x6 x7) (some (f1074_g (Sp.f1074 x0 x1 x2 x3 x4 x5 x6 x7))) := by
  refine Eq.trans (b := chk (Sp.f1098_pre x0 x1 x2 x3 x4 x5 x6 x7) (bif !(Sp.f1098 x0 x1 x2 x3 x4 x5 x6 x7).1 then some (Res.mk [XV.mk false [X.c (X0.row Ty.str [] true)], ZX Zi (1 : Int)] []) else chk (Sp.cnt32 x7) (some (Res.mk [XV.mk false [X.c (X0.row Ty.str (Sp.readI x0 x2 x7) true)], ZX Zi (0 : Int)] [])))) (by kernel_rfl) ?_
  unfold Sp.f1074_pre Sp.f1074
  exact (chk_step ((cond_step f1074_g ((lift_plain (rfl))) ((chk_last (rfl))))))
theorem e1074_ok : Valid PP Γ e1074 := valid_auto ok (vcons e1098_ok (vcons e1099_ok vnil)) fun a => f1074_form a.1 a.2.1 a.2.2.1 a.2.2.2.1 a.2.2.2.2.1 a.2.2.2.2.2.1 a.2.2.2.2.2.2.1 a.2.2.2.2.2.2.2

end Go.Proofs.GR.T

set_option maxRecDepth 3000000
set_option maxHeartbeats 100000000
namespace Go.Proofs.GR.T
open Go Go.Proofs Go.Proofs.GR
noncomputable def f1158_L0 (n m0 : Nat) (y0 y1 y2 : Int) (y3 y4 : ByteArray) (y5 y6 : Int) (y7 : ByteArray) (y8 : List ZT) : Option Res := loopAt Γ (orc [e194, e1019, e79]) n (42 : Nat) (0 : Nat) [] [Pth.r, Pth.r, Pth.l, Pth.r, Pth.b, Pth.r, Pth.r, Pth.r, Pth.r, Pth.r, Pth.r, Pth.r, Pth.l, Pth.r, Pth.l, Pth.r, Pth.b] m0 (St.mk (Zn :: Slot.val (Val.one (Cell.ptr (0 : Nat) (0 : Nat))) :: Zn :: ZS Zi y0 :: ZN 215 []) [AObj.box (34 : Nat) [Cell.dat Zi y1, Cell.dat Zi y2, Cell.dat Ty.str y3, Cell.dat Ty.str y4, Cell.dat Zi y5, Cell.dat Zi y6, Cell.dat Ty.str y7, Cell.dat ZA.rose.slice y8]])
theorem f1158_L0_step (n m0 : Nat) (y0 y1 y2 : Int) (y3 y4 : ByteArray) (y5 y6 : Int) (y7 : ByteArray) (y8 : List ZT) : f1158_L0 n (m0 + 1) y0 y1 y2 y3 y4 y5 y6 y7 y8 = bif decide (y0 < (↑y8.length : Int)) then chk (decide ((0 : Int) ≤ y0) && decide (y0 < (↑y8.length : Int))) (bif (y8.getD y0.toNat ZR).a.1 != (14 : Int) then Zf else chk (decide ((0 : Int) ≤ y0) && decide (y0 < (↑y8.length : Int))) (bif !Sp.lT (Sp.mkT ((y8.getD y0.toNat ZR).a.1, (y8.getD y0.toNat ZR).a.2.1, (y8.getD y0.toNat ZR).a.2.2.1, (y8.getD y0.toNat ZR).a.2.2.2.1, (y8.getD y0.toNat ZR).a.2.2.2.2.1, (y8.getD y0.toNat ZR).a.2.2.2.2.2.1, (y8.getD y0.toNat ZR).a.2.2.2.2.2.2, (y8.getD y0.toNat ZR).kids)) false then Zf else f1158_L0 n m0 (IntKind.i64.wrap (y0 + (1 : Int))) y1 y2 y3 y4 y5 y6 y7 y8)) else Zt := by kernel_rfl
theorem f1158_raw (n : Nat) (x0 x1 : Int) (x2 x3 : ByteArray) (x4 x5 : Int) (x6 : ByteArray) (x7 : List ZT) : abody Γ (orc [e194, e1019, e79]) n 42 [XV.mk true [ZC Zi x0, ZC Zi x1, ZC Ty.str x2, ZC Ty.str x3, ZC Zi x4, ZC Zi x5, ZC Ty.str x6, ZC ZA.rose.slice x7]] = bif !(Go.Proofs.GR.eqI x4 (0 : Int) && (Go.Proofs.GR.eqI x5 (0 : Int) && (Go.Proofs.GR.eqS x6 ByteArray.empty && true))) then Zf else bif x0 == (5 : Int) then bif x1 == (0 : Int) then bif x3.toList == (ByteArray.mk #[]).toList then bif x2.toList == (ByteArray.mk #[]).toList then bif (↑x7.length : Int) == (1 : Int) then chk (decide ((0 : Int) < (↑x7.length : Int))) (ZB (Sp.lT (Sp.mkT ((x7.getD (0 : Nat) ZR).a.1, (x7.getD (0 : Nat) ZR).a.2.1, (x7.getD (0 : Nat) ZR).a.2.2.1, (x7.getD (0 : Nat) ZR).a.2.2.2.1, (x7.getD (0 : Nat) ZR).a.2.2.2.2.1, (x7.getD (0 : Nat) ZR).a.2.2.2.2.2.1, (x7.getD (0 : Nat) ZR).a.2.2.2.2.2.2, (x7.getD (0 : Nat) ZR).kids)) true)) else Zf else bif Sp.isFreeS x2 then bif (↑x7.length : Int) == (1 : Int) then chk (decide ((0 : Int) < (↑x7.length : Int))) (ZB (Sp.lT (Sp.mkT ((x7.getD (0 : Nat) ZR).a.1, (x7.getD (0 : Nat) ZR).a.2.1, (x7.getD (0 : Nat) ZR).a.2.2.1, (x7.getD (0 : Nat) ZR).a.2.2.2.1, (x7.getD (0 : Nat) ZR).a.2.2.2.2.1, (x7.getD (0 : Nat) ZR).a.2.2.2.2.2.1, (x7.getD (0 : Nat) ZR).a.2.2.2.2.2.2, (x7.getD (0 : Nat) ZR).kids)) true)) else Zf else Zf else Zf else Zf else bif x0 == (6 : Int) then bif x1 == (0 : Int) then bif Sp.isFreeS x2 then bif x3.toList == (ByteArray.mk #[]).toList then ZB ((↑x7.length : Int) == (0 : Int)) else bif Sp.isFreeS x3 then ZB ((↑x7.length : Int) == (0 : Int)) else Zf else Zf else Zf else bif x0 == (7 : Int) then bif x0 == (7 : Int) then bif x1 == (0 : Int) then bif x2.toList == (ByteArray.mk #[]).toList then bif x3.toList == (ByteArray.mk #[]).toList then bif (↑x7.length : Int) == (1 : Int) then chk (decide ((0 : Int) < (↑x7.length : Int))) (ZB (Sp.lT (Sp.mkT ((x7.getD (0 : Nat) ZR).a.1, (x7.getD (0 : Nat) ZR).a.2.1, (x7.getD (0 : Nat) ZR).a.2.2.1, (x7.getD (0 : Nat) ZR).a.2.2.2.1, (x7.getD (0 : Nat) ZR).a.2.2.2.2.1, (x7.getD (0 : Nat) ZR).a.2.2.2.2.2.1, (x7.getD (0 : Nat) ZR).a.2.2.2.2.2.2, (x7.getD (0 : Nat) ZR).kids)) false)) else Zf else Zf else Zf else Zf else bif x0 == (9 : Int) then bif x1 != (0 : Int) then Zf else bif !x2.toList == (ByteArray.mk #[]).toList then Zf else bif !x3.toList == (ByteArray.mk #[]).toList then Zf else bif (↑x7.length : Int) == (0 : Int) then Zf else f1158_L0 n n (0 : Int) x0 x1 x2 x3 x4 x5 x6 x7 else bif x0 == (10 : Int) then bif (Sp.f79 x1 (0 : Int) (1 : Int)).1 then bif x2.toList == (ByteArray.mk #[]).toList then bif x3.toList == (ByteArray.mk #[]).toList then bif (↑x7.length : Int) == (1 : Int) then chk (decide ((0 : Int) < (↑x7.length : Int))) (ZB (Sp.lT (Sp.mkT ((x7.getD (0 : Nat) ZR).a.1, (x7.getD (0 : Nat) ZR).a.2.1, (x7.getD (0 : Nat) ZR).a.2.2.1, (x7.getD (0 : Nat) ZR).a.2.2.2.1, (x7.getD (0 : Nat) ZR).a.2.2.2.2.1, (x7.getD (0 : Nat) ZR).a.2.2.2.2.2.1, (x7.getD (0 : Nat) ZR).a.2.2.2.2.2.2, (x7.getD (0 : Nat) ZR).kids)) true)) else Zf else Zf else Zf else Zf else bif x0 == (11 : Int) then bif (Sp.f79 x1 (0 : Int) (999999999999999999 : Int)).1 then bif x2.toList == (ByteArray.mk #[]).toList then bif x3.toList == (ByteArray.mk #[]).toList then ZB ((↑x7.length : Int) == (0 : Int)) else Zf else Zf else Zf else bif x0 == (12 : Int) then bif x1 == (0 : Int) then bif x3.toList == (ByteArray.mk #[]).toList then bif Sp.isFreeS x2 then bif (↑x7.length : Int) == (1 : Int) then chk (decide ((0 : Int) < (↑x7.length : Int))) (ZB (Sp.lT (Sp.mkT ((x7.getD (0 : Nat) ZR).a.1, (x7.getD (0 : Nat) ZR).a.2.1, (x7.getD (0 : Nat) ZR).a.2.2.1, (x7.getD (0 : Nat) ZR).a.2.2.2.1, (x7.getD (0 : Nat) ZR).a.2.2.2.2.1, (x7.getD (0 : Nat) ZR).a.2.2.2.2.2.1, (x7.getD (0 : Nat) ZR).a.2.2.2.2.2.2, (x7.getD (0 : Nat) ZR).kids)) false)) else Zf else Zf else Zf else Zf else Zf else bif x0 == (8 : Int) then bif x1 == (0 : Int) then bif x2.toList == (ByteArray.mk #[]).toList then bif x3.toList == (ByteArray.mk #[]).toList then bif (↑x7.length : Int) == (1 : Int) then chk (decide ((0 : Int) < (↑x7.length : Int))) (ZB (Sp.lT (Sp.mkT ((x7.getD (0 : Nat) ZR).a.1, (x7.getD (0 : Nat) ZR).a.2.1, (x7.getD (0 : Nat) ZR).a.2.2.1, (x7.getD (0 : Nat) ZR).a.2.2.2.1, (x7.getD (0 : Nat) ZR).a.2.2.2.2.1, (x7.getD (0 : Nat) ZR).a.2.2.2.2.2.1, (x7.getD (0 : Nat) ZR).a.2.2.2.2.2.2, (x7.getD (0 : Nat) ZR).kids)) false)) else Zf else Zf else Zf else Zf else bif x0 == (9 : Int) then bif x1 != (0 : Int) then Zf else bif !x2.toList == (ByteArray.mk #[]).toList then Zf else bif !x3.toList == (ByteArray.mk #[]).toList then Zf else bif (↑x7.length : Int) == (0 : Int) then Zf else f1158_L0 n n (0 : Int) x0 x1 x2 x3 x4 x5 x6 x7 else bif x0 == (10 : Int) then bif (Sp.f79 x1 (0 : Int) (1 : Int)).1 then bif x2.toList == (ByteArray.mk #[]).toList then bif x3.toList == (ByteArray.mk #[]).toList then bif (↑x7.length : Int) == (1 : Int) then chk (decide ((0 : Int) < (↑x7.length : Int))) (ZB (Sp.lT (Sp.mkT ((x7.getD (0 : Nat) ZR).a.1, (x7.getD (0 : Nat) ZR).a.2.1, (x7.getD (0 : Nat) ZR).a.2.2.1, (x7.getD (0 : Nat) ZR).a.2.2.2.1, (x7.getD (0 : Nat) ZR).a.2.2.2.2.1, (x7.getD (0 : Nat) ZR).a.2.2.2.2.2.1, (x7.getD (0 : Nat) ZR).a.2.2.2.2.2.2, (x7.getD (0 : Nat) ZR).kids)) true)) else Zf else Zf else Zf else Zf else bif x0 == (11 : Int) then bif (Sp.f79 x1 (0 : Int) (999999999999999999 : Int)).1 then bif x2.toList == (ByteArray.mk #[]).toList then bif x3.toList == (ByteArray.mk #[]).toList then ZB ((↑x7.length : Int) == (0 : Int)) else Zf else Zf else Zf else bif x0 == (12 : Int) then bif x1 == (0 : Int) then bif x3.toList == (ByteArray.mk #[]).toList then bif Sp.isFreeS x2 then bif (↑x7.length : Int) == (1 : Int) then chk (decide ((0 : Int) < (↑x7.length : Int))) (ZB (Sp.lT (Sp.mkT ((x7.getD (0 : Nat) ZR).a.1, (x7.getD (0 : Nat) ZR).a.2.1, (x7.getD (0 : Nat) ZR).a.2.2.1, (x7.getD (0 : Nat) ZR).a.2.2.2.1, (x7.getD (0 : Nat) ZR).a.2.2.2.2.1, (x7.getD (0 : Nat) ZR).a.2.2.2.2.2.1, (x7.getD (0 : Nat) ZR).a.2.2.2.2.2.2, (x7.getD (0 : Nat) ZR).kids)) false)) else Zf else Zf else Zf else Zf else Zf := by kernel_rfl

end Go.Proofs.GR.T

set_option maxRecDepth 3000000
set_option maxHeartbeats 100000000
namespace Go.Proofs.GR.T
open Go Go.Proofs Go.Proofs.GR
def Sp.grpS (r : RT) : Bool := bif r.a.1 != (14 : Int) then false else Sp.lT r false
def Sp.partX (x0 x1 : Int) (x2 x3 : ByteArray) (x4 x5 : Int) (x6 : ByteArray) (x7 : List RT) : Bool :=
  bif !Sp.noVal x4 x5 x6 then false
  else bif x0 == (5 : Int) then (bif x1 == (0 : Int) then bif Sp.mtS x3 then bif Sp.mtS x2 then (bif (x7.length : Int) == (1 : Int) then Sp.lT (Sp.k0 x7) true else false) else bif Sp.isFreeS x2 then (bif (x7.length : Int) == (1 : Int) then Sp.lT (Sp.k0 x7) true else false) else false else false else false)
  else bif x0 == (6 : Int) then (bif x1 == (0 : Int) then bif Sp.isFreeS x2 then bif Sp.mtS x3 then (x7.length : Int) == (0 : Int) else bif Sp.isFreeS x3 then (x7.length : Int) == (0 : Int) else false else false else false)
  else bif (bif x0 == (7 : Int) then true else x0 == (8 : Int)) then (bif x1 == (0 : Int) then bif Sp.mtS x2 then bif Sp.mtS x3 then bif (x7.length : Int) == (1 : Int) then Sp.lT (Sp.k0 x7) false else false else false else false else false)
  else bif x0 == (9 : Int) then (bif !(x1 == (0 : Int)) then false else bif !Sp.mtS x2 then false else bif !Sp.mtS x3 then false else bif (x7.length : Int) == (0 : Int) then false else Sp.allW Sp.grpS x7)
  else bif x0 == (10 : Int) then (bif (Sp.f79 x1 (0 : Int) (1 : Int)).1 then bif Sp.mtS x2 then bif Sp.mtS x3 then bif (x7.length : Int) == (1 : Int) then Sp.lT (Sp.k0 x7) true else false else false else false else false)
  else bif x0 == (11 : Int) then (bif (Sp.f79 x1 (0 : Int) (999999999999999999 : Int)).1 then bif Sp.mtS x2 then bif Sp.mtS x3 then (x7.length : Int) == (0 : Int) else false else false else false)
  else bif x0 == (12 : Int) then (bif x1 == (0 : Int) then bif Sp.mtS x3 then bif Sp.isFreeS x2 then bif (x7.length : Int) == (1 : Int) then Sp.lT (Sp.k0 x7) false else false else false else false else false)
  else false
def Sp.partR (r : RT) : Bool := Sp.partX r.a.1 r.a.2.1 r.a.2.2.1 r.a.2.2.2.1 r.a.2.2.2.2.1 r.a.2.2.2.2.2.1 r.a.2.2.2.2.2.2 r.kids
noncomputable def e1158 : Ent := { f := n1158, ins := [Sh.agg aT], outs := [Sh.one cB], upd := [], pre := fun _ => true, spec := fun a => Sp.partR (Sp.mkT a), wrt := fun _ => () }
theorem grp_loop (n : Nat) (x0 x1 : Int) (x2 x3 : ByteArray) (x4 x5 : Int) (x6 : ByteArray) (xs : List RT) (hl : xs.length ≤ 9223372036854775807) : f1158_L0 n (xs.length + 1) 0 x0 x1 x2 x3 x4 x5 x6 xs = some (rBo (Sp.allW Sp.grpS xs)) := by
  have := all_loop (p := Sp.grpS) (R := rBo) xs (fun m k => f1158_L0 n m k x0 x1 x2 x3 x4 x5 x6 xs) (fun m k hk => by
    show f1158_L0 _ _ _ _ _ _ _ _ _ _ _ = _
    rw [f1158_L0_step, nat_ge hk, cond_false]) (fun m k h => by
    show f1158_L0 _ _ _ _ _ _ _ _ _ _ _ = _
    rw [f1158_L0_step, nat_lt h, cond_true, guard0, chkT, chkT, getD_nat xs k _ h, next64 h hl, mkT_flds]
    unfold Sp.grpS
    cases xs[k].a.1 != (14 : Int) <;> cases Sp.lT xs[k] false <;> rfl) xs.length 0 (xs.length + 1) (Nat.zero_add _) (Nat.lt_succ_self _)
  rw [List.drop_zero] at this
  exact this
theorem e1158_core (x0 x1 : Int) (x2 x3 : ByteArray) (x4 x5 : Int) (x6 : ByteArray) (x7 : List RT) (hl : x7.length ≤ maxLen) : ∃ n, abody Γ (orc [e194, e1019, e79]) n n1158 (e1158.args (x0, x1, x2, x3, x4, x5, x6, x7)) = some (e1158.res (x0, x1, x2, x3, x4, x5, x6, x7)) := by
  have hl : x7.length ≤ 9223372036854775807 := hl
  refine ⟨x7.length + 1, (f1158_raw _ x0 x1 x2 x3 x4 x5 x6 x7).trans ?_⟩
  show _ = some (rBo (Sp.partX x0 x1 x2 x3 x4 x5 x6 x7))
  rw [grp_loop _ x0 x1 x2 x3 x4 x5 x6 x7 hl, mkT_flds]
  have hd : ((x7.length : Int) == (1 : Int)) = true → decide ((0 : Int) < (x7.length : Int)) = true := fun h => decide_eq_true (by have := eq_of_beq h; omega)
  unfold Sp.partX Sp.k0 Sp.mtS Sp.noVal
  rw [show (x1 != (0 : Int)) = !(x1 == (0 : Int)) from rfl]
  revert hd
  generalize (Go.Proofs.GR.eqI x4 (0 : Int) && (Go.Proofs.GR.eqI x5 (0 : Int) && (Go.Proofs.GR.eqS x6 ByteArray.empty && true))) = c0
  generalize (x1 == (0 : Int)) = c1
  generalize (x2.toList == (ByteArray.mk #[]).toList) = c2
  generalize (x3.toList == (ByteArray.mk #[]).toList) = c3
  generalize Sp.isFreeS x2 = f2
  generalize Sp.isFreeS x3 = f3
  generalize ((x7.length : Int) == (1 : Int)) = l1
  generalize ((x7.length : Int) == (0 : Int)) = l0
  generalize (Sp.f79 x1 (0 : Int) (1 : Int)).1 = w1
  generalize (Sp.f79 x1 (0 : Int) (999999999999999999 : Int)).1 = w2
  generalize Sp.allW Sp.grpS x7 = gg
  generalize decide ((0 : Int) < (x7.length : Int)) = dd
  generalize Sp.lT (x7.getD (0 : Nat) ZR) true = t1
  generalize Sp.lT (x7.getD (0 : Nat) ZR) false = t2
  intro hd
  cases c0 with
  | false => rfl
  | true =>
  have hq : l1 = true → dd = true := hd
  cases x0 == (5 : Int) with
  | true =>
    cases l1 with
    | false => cases c1 <;> cases c3 <;> cases c2 <;> cases f2 <;> rfl
    | true => rw [hq rfl]; cases c1 <;> cases c3 <;> cases c2 <;> cases f2 <;> rfl
  | false =>
  cases x0 == (6 : Int) with
  | true => cases c1 <;> cases f2 <;> cases c3 <;> cases f3 <;> rfl
  | false =>
  cases x0 == (7 : Int) with
  | true =>
    cases l1 with
    | false => cases c1 <;> cases c2 <;> cases c3 <;> rfl
    | true => rw [hq rfl]; cases c1 <;> cases c2 <;> cases c3 <;> rfl
  | false =>
  cases x0 == (8 : Int) with
  | true =>
    cases l1 with
    | false => cases c1 <;> cases c2 <;> cases c3 <;> rfl
    | true => rw [hq rfl]; cases c1 <;> cases c2 <;> cases c3 <;> rfl
  | false =>
  cases x0 == (9 : Int) with
  | true => cases c1 <;> cases c2 <;> cases c3 <;> cases l0 <;> rfl
  | false =>
  cases x0 == (10 : Int) with
  | true =>
    cases l1 with
    | false => cases w1 <;> cases c2 <;> cases c3 <;> rfl
    | true => rw [hq rfl]; cases w1 <;> cases c2 <;> cases c3 <;> rfl
  | false =>
  cases x0 == (11 : Int) with
  | true => cases w2 <;> cases c2 <;> cases c3 <;> rfl
  | false =>
  cases x0 == (12 : Int) with
  | true =>
    cases l1 with
    | false => cases c1 <;> cases c3 <;> cases f2 <;> rfl
    | true => rw [hq rfl]; cases c1 <;> cases c3 <;> cases f2 <;> rfl
  | false => rfl
theorem e1158_ok : Valid PP Γ e1158 := valid_len ok (vcons e194_ok (vcons e1019_ok (vcons e79_ok vnil))) fun a _ hl => e1158_core a.1 a.2.1 a.2.2.1 a.2.2.2.1 a.2.2.2.2.1 a.2.2.2.2.2.1 a.2.2.2.2.2.2.1 a.2.2.2.2.2.2.2 (hl _ (List.mem_cons_self) _ (List.mem_cons_of_mem _ (List.mem_cons_of_mem _ (List.mem_cons_of_mem _ (List.mem_cons_of_mem _ (List.mem_cons_of_mem _ (List.mem_cons_of_mem _ (List.mem_cons_of_mem _ List.mem_cons_self)))))))).1
end Go.Proofs.GR.T

