/-
  No statement is proved here: what the functions of the law answer, told as plain functions, and that the law's answer is always true.
  No condition.
-/
import Derived.Test.YtfihkpknhkbciaaGreatDoorTRuleOKp
set_option maxRecDepth 3000000
set_option maxHeartbeats 100000000
namespace Go.Proofs.GR.T
open Go Go.Proofs Go.Proofs.GR
abbrev aRl : List C0 := [cS, cS, cI, cI, cI, cI, cS, cS, cI, cI, cS, cL tT, cL tSg, cS, cL tT]
def Sp.tdI (sc : List VF) (r : RT) (due : Int) : Bool := (Sp.f1446 r.a.1 r.a.2.1 r.a.2.2.1 r.a.2.2.2.1 r.a.2.2.2.2.1 r.a.2.2.2.2.2.1 r.a.2.2.2.2.2.2 r.kids sc due).1
def Sp.tdP (sc : List VF) (r : RT) : Bool := Sp.f1466_pre r.a.1 r.a.2.1 r.a.2.2.1 r.a.2.2.2.1 r.a.2.2.2.2.1 r.a.2.2.2.2.2.1 r.a.2.2.2.2.2.2 r.kids sc
def Sp.tdS (sc : List VF) (x : VSg) : Bool := Sp.tdP sc x.2
def Sp.colAt (cs : List VCo) (i : Int) : Int := (cs.getD i.toNat (ByteArray.empty, 0, false)).2.1
def Sp.inCol (key n : Int) (c : Int) : Bool := bif decide (c ≥ key) then decide (c ≤ IntKind.i64.wrap (n - 1)) else false
def Sp.setP (cs : List VCo) (key : Int) (sc : List VF) (pre : List VSg) (x : VSg) : Bool := bif Sp.inCol key cs.length x.1 then (bif Sp.tdI sc x.2 (Sp.colAt cs x.1) then !Sp.anyW (Sp.sameCol x) pre else false) else false
def Sp.setsI (ev : Int) (xs : List VSg) (cs : List VCo) (key : Int) (sc : List VF) : Bool :=
  bif Sp.allP (Sp.setP cs key sc) [] xs then (bif decide ((xs.length : Int) ≤ 8) then (bif (xs.length : Int) == 0 then true else ev != 3) else false) else false
def Sp.setsP (xs : List VSg) (cs : List VCo) (key : Int) (sc : List VF) : Bool := yes2 (Sp.fits32 xs) (yes2 (Sp.fits32 cs) (yes2 (decide (0 ≤ key)) (Sp.allW (Sp.tdS sc) xs)))
noncomputable def e1447 : Ent := { f := n1447, ins := [Sh.agg aRl, Sh.agg aTb, Sh.one (cL tF)], outs := [Sh.one cB], upd := [], pre := fun a => Sp.setsP a.1.2.2.2.2.2.2.2.2.2.2.2.2.1 a.2.1.2.1 a.2.1.2.2.1 a.2.2, spec := fun a => Sp.setsI a.1.2.2.1 a.1.2.2.2.2.2.2.2.2.2.2.2.2.1 a.2.1.2.1 a.2.1.2.2.1 a.2.2, wrt := fun _ => () }
theorem f1469_eq (l : List VSg) (x : VSg) (r : RT) : (Sp.f1469 l x.1 r).1 = Sp.anyW (Sp.sameCol x) l := idx_any (Sp.sameCol x) l 0 (Int.le_refl 0)
theorem inCol_lt {key c : Int} {n : Nat} (h0 : 0 ≤ key) (hn : n ≤ 1000000000000) (h : Sp.inCol key n c = true) : 0 ≤ c ∧ c < (n : Int) := by
  unfold Sp.inCol at h
  by_cases h1 : c ≥ key
  · rw [decide_eq_true h1, cond_true, wrap64 (by omega) (by omega)] at h
    have := of_decide_eq_true h
    exact ⟨by omega, by omega⟩
  · rw [decide_eq_false h1] at h
    cases h
theorem e1447_core (x0 x1 : ByteArray) (x2 x3 x4 x5 : Int) (x6 x7 : ByteArray) (x8 x9 : Int) (x10 : ByteArray) (x11 : List RT) (xs : List VSg) (x13 : ByteArray) (x14 : List RT) (x15 : ByteArray) (cs : List VCo) (key : Int) (x18 : List VIx) (sc : List VF) (ha : Sp.setsP xs cs key sc = true) :
    ∃ n, abody Γ (orc [e70, e1446, e1470, e1469]) n n1447 (e1447.args ((x0, x1, x2, x3, x4, x5, x6, x7, x8, x9, x10, x11, xs, x13, x14), (x15, cs, key, x18), sc)) = some (rBo (Sp.setsI x2 xs cs key sc)) := by
  obtain ⟨h1, ha⟩ := yes2_true ha
  obtain ⟨h2, ha⟩ := yes2_true ha
  obtain ⟨h3, ha⟩ := yes2_true ha
  have h1 := fits32_of h1
  have h2 := fits32_of h2
  have h3 := of_decide_eq_true h3
  have ha := allW_mem.1 ha
  refine ⟨xs.length + 1, (f1447_raw _ x0 x1 x2 x3 x4 x5 x6 x7 x8 x9 x10 x11 xs x13 x14 x15 cs key x18 sc).trans ?_⟩
  have L0 := allP_end (p := Sp.setP cs key sc) (z := some (rBo (bif decide ((xs.length : Int) ≤ 8) then (bif (xs.length : Int) == 0 then true else x2 != 3) else false))) (F := some (rBo false)) xs
    (fun m k => f1447_L0 (xs.length + 1) m sc xs xs.length k x0 x1 x2 x3 x4 x5 x6 x7 x8 x9 x10 x11 xs x13 x14 x15 cs key x18) (fun m k hk => by
    show f1447_L0 _ _ _ _ _ _ _ _ _ _ _ _ _ _ _ _ _ _ _ _ _ _ _ _ _ = _
    rw [f1447_L0_step, nat_ge hk, cond_false]
    cases decide ((xs.length : Int) ≤ 8) <;> cases (xs.length : Int) == 0 <;> rfl) (fun m k h _ => by
    show f1447_L0 _ _ _ _ _ _ _ _ _ _ _ _ _ _ _ _ _ _ _ _ _ _ _ _ _ = _
    have hp : Sp.f1446_pre xs[k].2.a.1 xs[k].2.a.2.1 xs[k].2.a.2.2.1 xs[k].2.a.2.2.2.1 xs[k].2.a.2.2.2.2.1 xs[k].2.a.2.2.2.2.2.1 xs[k].2.a.2.2.2.2.2.2 xs[k].2.kids sc (Sp.colAt cs xs[k].1) = true := ha _ (List.getElem_mem h)
    have ht : List.take ((k : Int).toNat - 0) (List.drop 0 xs) = xs.take k := by rw [List.drop_zero, Int.toNat_natCast, Nat.sub_zero]
    rw [f1447_L0_step, nat_lt h, cond_true, guard0, chkT, getD_nat xs k _ h, next64 h (by omega), ht, f1469_eq]
    unfold Sp.setP
    have e1 : (Sp.f70 xs[k].1 key (IntKind.i64.wrap ((cs.length : Int) - 1))).1 = Sp.inCol key cs.length xs[k].1 := by
      unfold Sp.f70 Sp.inCol
      cases decide (xs[k].1 ≥ key) <;> rfl
    rw [e1]
    cases hi : Sp.inCol key cs.length xs[k].1 with
    | false => rfl
    | true =>
      obtain ⟨q0, q1⟩ := inCol_lt h3 h2 hi
      rw [decide_eq_true q0, decide_eq_true q1, Bool.and_self, chkT, Bool.not_true, cond_false, cond_true]
      refine (congrArg (fun b => chk b _) hp).trans ?_
      rw [chkT]
      show (bif !Sp.tdI sc xs[k].2 (Sp.colAt cs xs[k].1) then _ else _) = _
      cases Sp.tdI sc xs[k].2 (Sp.colAt cs xs[k].1) with
      | false => rfl
      | true =>
        rw [Bool.not_true, cond_false, cond_true, show (decide ((0 : Int) ≤ (k : Int)) && decide ((k : Int) ≤ (xs.length : Int))) = true by rw [decide_eq_true (show (0 : Int) ≤ (k : Int) by omega), decide_eq_true (show (k : Int) ≤ (xs.length : Int) by omega)]; rfl, chkT, Bool.not_not]) _ (Nat.lt_succ_self _)
  refine L0.trans ?_
  unfold Sp.setsI
  cases Sp.allP (Sp.setP cs key sc) [] xs <;> rfl
theorem e1447_ok : Valid PP Γ e1447 := valid_of ok (vcons e70_ok (vcons e1446_ok (vcons e1470_ok (vcons e1469_ok vnil)))) fun a ha => e1447_core a.1.1 a.1.2.1 a.1.2.2.1 a.1.2.2.2.1 a.1.2.2.2.2.1 a.1.2.2.2.2.2.1 a.1.2.2.2.2.2.2.1 a.1.2.2.2.2.2.2.2.1 a.1.2.2.2.2.2.2.2.2.1 a.1.2.2.2.2.2.2.2.2.2.1 a.1.2.2.2.2.2.2.2.2.2.2.1 a.1.2.2.2.2.2.2.2.2.2.2.2.1 a.1.2.2.2.2.2.2.2.2.2.2.2.2.1 a.1.2.2.2.2.2.2.2.2.2.2.2.2.2.1 a.1.2.2.2.2.2.2.2.2.2.2.2.2.2.2 a.2.1.1 a.2.1.2.1 a.2.1.2.2.1 a.2.1.2.2.2 a.2.2 ha
def Sp.zipI (sc : List VF) : List RT → List VCo → Bool
  | r :: l, c :: k => bif Sp.tdI sc r c.2.1 then Sp.zipI sc l k else false
  | _, _ => true
def Sp.intoI (into : ByteArray) (es : List RT) (ts : List VTb) (sc : List VF) : Bool :=
  bif into.toList == (ByteArray.mk #[]).toList then (es.length : Int) == 0
  else bif !Sp.hitT ts into then false
  else bif (es.length : Int) != ((Sp.tAt ts (Sp.lowT ts into : Nat)).2.1.length : Int) then false
  else Sp.zipI sc es (Sp.tAt ts (Sp.lowT ts into : Nat)).2.1
def Sp.intoP (es : List RT) (ts : List VTb) (sc : List VF) : Bool := yes2 (Sp.fits32 es) (yes2 (Sp.risT ts) (Sp.allW (Sp.tdP sc) es))
noncomputable def e1359 : Ent := { f := n1359, ins := [Sh.agg aRl, Sh.one (cL tTb), Sh.one (cL tF)], outs := [Sh.one cB], upd := [], pre := fun a => Sp.intoP a.1.2.2.2.2.2.2.2.2.2.2.2.2.2.2 a.2.1 a.2.2, spec := fun a => Sp.intoI a.1.2.2.2.2.2.2.2.2.2.2.2.2.2.1 a.1.2.2.2.2.2.2.2.2.2.2.2.2.2.2 a.2.1 a.2.2, wrt := fun _ => () }
theorem into_loop (n : Nat) (ts : List VTb) (sc : List VF) (i : Nat) (es : List RT) (hi : i < ts.length) (hn : es.length = (Sp.tAt ts (i : Nat)).2.1.length) (h1 : es.length ≤ 1000000000000) (ha : ∀ r ∈ es, Sp.tdP sc r = true) :
    ∀ (d k m : Nat), k + d = es.length → d < m → f1359_L0 n m ts sc (i : Int) es es.length k = some (rBo (Sp.zipI sc (es.drop k) ((Sp.tAt ts (i : Nat)).2.1.drop k))) := by
  intro d
  induction d with
  | zero =>
    intro k m hk hm
    obtain ⟨m, rfl⟩ := succ_of hm
    rw [f1359_L0_step, nat_ge (show es.length ≤ k by omega), cond_false, List.drop_eq_nil_of_le (by omega), Sp.zipI]
    intro _ _ _ _ e
    cases e
  | succ d ih =>
    intro k m hk hm
    obtain ⟨m, rfl⟩ := succ_of hm
    have h : k < es.length := by omega
    have hc : k < (Sp.tAt ts (i : Nat)).2.1.length := by omega
    have hp : Sp.f1466_pre es[k].a.1 es[k].a.2.1 es[k].a.2.2.1 es[k].a.2.2.2.1 es[k].a.2.2.2.2.1 es[k].a.2.2.2.2.2.1 es[k].a.2.2.2.2.2.2 es[k].kids sc = true := ha _ (List.getElem_mem h)
    have et : ts.getD (i : Int).toNat (ByteArray.mk #[], [], (0 : Int), []) = Sp.tAt ts (i : Nat) := rfl
    rw [f1359_L0_step, nat_lt h, cond_true, guard0, chkT, getD_nat es k _ h, et, guardI hi, chkT, guardI hc, chkT, next64 h (by omega), getD_nat _ k _ hc]
    refine (congrArg (fun b => chk b _) hp).trans ?_
    rw [chkT, List.drop_eq_getElem_cons h, List.drop_eq_getElem_cons hc, Sp.zipI]
    show (bif !Sp.tdI sc es[k] (Sp.tAt ts (i : Nat)).2.1[k].2.1 then _ else _) = _
    cases Sp.tdI sc es[k] (Sp.tAt ts (i : Nat)).2.1[k].2.1 with
    | false => rfl
    | true => exact ih (k + 1) m (by omega) (by omega)
theorem e1359_core (x0 x1 : ByteArray) (x2 x3 x4 x5 : Int) (x6 x7 : ByteArray) (x8 x9 : Int) (x10 : ByteArray) (x11 : List RT) (x12 : List VSg) (into : ByteArray) (es : List RT) (ts : List VTb) (sc : List VF) (ha : Sp.intoP es ts sc = true) :
    ∃ n, abody Γ (orc [e1092, e1446]) n n1359 (e1359.args ((x0, x1, x2, x3, x4, x5, x6, x7, x8, x9, x10, x11, x12, into, es), ts, sc)) = some (rBo (Sp.intoI into es ts sc)) := by
  obtain ⟨h1, ha⟩ := yes2_true ha
  obtain ⟨h2, ha⟩ := yes2_true ha
  have h1 := fits32_of h1
  have ha := allW_mem.1 ha
  refine ⟨es.length + 1, (f1359_raw _ x0 x1 x2 x3 x4 x5 x6 x7 x8 x9 x10 x11 x12 into es ts sc).trans ?_⟩
  unfold Sp.intoI
  cases into.toList == (ByteArray.mk #[]).toList with
  | true => rfl
  | false =>
    rw [cond_false, cond_false]
    refine (congrArg (fun b => chk b _) (show Sp.f1092_pre ts into = true from h2)).trans ?_
    rw [chkT]
    show (bif !Sp.hitT ts into then _ else chk (decide ((0 : Int) ≤ ((Sp.lowT ts into : Nat) : Int)) && decide (((Sp.lowT ts into : Nat) : Int) < (ts.length : Int))) (bif (es.length : Int) != ((Sp.tAt ts (Sp.lowT ts into : Nat)).2.1.length : Int) then _ else f1359_L0 _ _ ts sc ((Sp.lowT ts into : Nat) : Int) es es.length 0)) = _
    cases hh : Sp.hitT ts into with
    | false => rfl
    | true =>
      have hi := hit_lt hh
      rw [Bool.not_true, cond_false, cond_false, guardI hi, chkT]
      by_cases hn : es.length = (Sp.tAt ts (Sp.lowT ts into : Nat)).2.1.length
      · rw [show ((es.length : Int) != ((Sp.tAt ts (Sp.lowT ts into : Nat)).2.1.length : Int)) = false by rw [hn]; simp, cond_false, cond_false]
        exact into_loop _ ts sc _ es hi hn h1 ha es.length 0 _ (Nat.zero_add _) (Nat.lt_succ_self _)
      · rw [show ((es.length : Int) != ((Sp.tAt ts (Sp.lowT ts into : Nat)).2.1.length : Int)) = true by simp; omega]
        rfl
theorem e1359_ok : Valid PP Γ e1359 := valid_of ok (vcons e1092_ok (vcons e1446_ok vnil)) fun a ha => e1359_core a.1.1 a.1.2.1 a.1.2.2.1 a.1.2.2.2.1 a.1.2.2.2.2.1 a.1.2.2.2.2.2.1 a.1.2.2.2.2.2.2.1 a.1.2.2.2.2.2.2.2.1 a.1.2.2.2.2.2.2.2.2.1 a.1.2.2.2.2.2.2.2.2.2.1 a.1.2.2.2.2.2.2.2.2.2.2.1 a.1.2.2.2.2.2.2.2.2.2.2.2.1 a.1.2.2.2.2.2.2.2.2.2.2.2.2.1 a.1.2.2.2.2.2.2.2.2.2.2.2.2.2.1 a.1.2.2.2.2.2.2.2.2.2.2.2.2.2.2 a.2.1 a.2.2 ha
def Sp.f1429_pre (x0 x1 : ByteArray) (x2 x3 x4 x5 : Int) (x6 x7 : ByteArray) (x8 x9 : Int) (x10 : ByteArray) (x11 : List ZT) (x12 : List (Int × Rose (Int × Int × ByteArray × ByteArray × Int × Int × ByteArray))) (x13 : ByteArray) (x14 : List ZT) (x15 : List (ByteArray × List (ByteArray × Int × Bool) × Int × List (ByteArray × List Int))) : Bool := (Sp.f1092_pre x15 x1 && (bif !(Sp.f1092 x15 x1).1.2 then true else (Sp.f1029_pre x0 && (bif !(Sp.f1029 x0).1 then true else (bif !(Sp.f70 x2 (1 : Int) (3 : Int)).1 then true else (bif !(Sp.f70 x3 (0 : Int) (100 : Int)).1 then true else (decide ((0 : Int) ≤ (Sp.f1092 x15 x1).1.1) && decide ((Sp.f1092 x15 x1).1.1 < (↑x15.length : Int)) && (Sp.fits32 (x15.getD (Sp.f1092 x15 x1).1.1.toNat (ByteArray.mk #[], [], (0 : Int), [])).2.1 && (Sp.f1446_pre x4 x5 x6 x7 x8 x9 x10 x11 (Sp.flds (x15.getD (Sp.f1092 x15 x1).1.1.toNat (ByteArray.mk #[], [], (0 : Int), [])).2.1 x1) (1 : Int) && (bif (Sp.f1446 x4 x5 x6 x7 x8 x9 x10 x11 (Sp.flds (x15.getD (Sp.f1092 x15 x1).1.1.toNat (ByteArray.mk #[], [], (0 : Int), [])).2.1 x1) (1 : Int)).1 then (decide ((0 : Int) ≤ (Sp.f1092 x15 x1).1.1) && decide ((Sp.f1092 x15 x1).1.1 < (↑x15.length : Int)) && (Sp.setsP x12 (x15.getD (Sp.f1092 x15 x1).1.1.toNat (ByteArray.mk #[], [], (0 : Int), [])).2.1 (x15.getD (Sp.f1092 x15 x1).1.1.toNat (ByteArray.mk #[], [], (0 : Int), [])).2.2.1 (Sp.flds (x15.getD (Sp.f1092 x15 x1).1.1.toNat (ByteArray.mk #[], [], (0 : Int), [])).2.1 x1) && (bif Sp.setsI x2 x12 (x15.getD (Sp.f1092 x15 x1).1.1.toNat (ByteArray.mk #[], [], (0 : Int), [])).2.1 (x15.getD (Sp.f1092 x15 x1).1.1.toNat (ByteArray.mk #[], [], (0 : Int), [])).2.2.1 (Sp.flds (x15.getD (Sp.f1092 x15 x1).1.1.toNat (ByteArray.mk #[], [], (0 : Int), [])).2.1 x1) then (Sp.intoP x14 x15 (Sp.flds (x15.getD (Sp.f1092 x15 x1).1.1.toNat (ByteArray.mk #[], [], (0 : Int), [])).2.1 x1)) else true))) else true))))))))))
def Sp.f1429 (x0 x1 : ByteArray) (x2 x3 x4 x5 : Int) (x6 x7 : ByteArray) (x8 x9 : Int) (x10 : ByteArray) (x11 : List ZT) (x12 : List (Int × Rose (Int × Int × ByteArray × ByteArray × Int × Int × ByteArray))) (x13 : ByteArray) (x14 : List ZT) (x15 : List (ByteArray × List (ByteArray × Int × Bool) × Int × List (ByteArray × List Int))) := (bif !(Sp.f1092 x15 x1).1.2 then (false, ()) else (bif !(Sp.f1029 x0).1 then (false, ()) else (bif !(Sp.f70 x2 (1 : Int) (3 : Int)).1 then (false, ()) else (bif !(Sp.f70 x3 (0 : Int) (100 : Int)).1 then (false, ()) else (bif (Sp.f1446 x4 x5 x6 x7 x8 x9 x10 x11 (Sp.flds (x15.getD (Sp.f1092 x15 x1).1.1.toNat (ByteArray.mk #[], [], (0 : Int), [])).2.1 x1) (1 : Int)).1 then (bif Sp.setsI x2 x12 (x15.getD (Sp.f1092 x15 x1).1.1.toNat (ByteArray.mk #[], [], (0 : Int), [])).2.1 (x15.getD (Sp.f1092 x15 x1).1.1.toNat (ByteArray.mk #[], [], (0 : Int), [])).2.2.1 (Sp.flds (x15.getD (Sp.f1092 x15 x1).1.1.toNat (ByteArray.mk #[], [], (0 : Int), [])).2.1 x1) then (Sp.intoI x13 x14 x15 (Sp.flds (x15.getD (Sp.f1092 x15 x1).1.1.toNat (ByteArray.mk #[], [], (0 : Int), [])).2.1 x1), ()) else (false, ())) else (false, ()))))))
noncomputable def e1429 : Ent := { f := 73, ins := [Sh.agg [C0.dat Ty.str, C0.dat Ty.str, C0.dat Zi, C0.dat Zi, C0.dat Zi, C0.dat Zi, C0.dat Ty.str, C0.dat Ty.str, C0.dat Zi, C0.dat Zi, C0.dat Ty.str, C0.dat ZA.rose.slice, C0.dat (Zi.pair ZA.rose).slice, C0.dat Ty.str, C0.dat ZA.rose.slice], Sh.one (C0.dat (Ty.str.pair ((Ty.str.pair (Zi.pair Ty.bool)).slice.pair (Zi.pair (Ty.str.pair Zi.slice).slice))).slice)], outs := [Sh.one (C0.dat Ty.bool)], upd := [], pre := fun a => Sp.f1429_pre a.1.1 a.1.2.1 a.1.2.2.1 a.1.2.2.2.1 a.1.2.2.2.2.1 a.1.2.2.2.2.2.1 a.1.2.2.2.2.2.2.1 a.1.2.2.2.2.2.2.2.1 a.1.2.2.2.2.2.2.2.2.1 a.1.2.2.2.2.2.2.2.2.2.1 a.1.2.2.2.2.2.2.2.2.2.2.1 a.1.2.2.2.2.2.2.2.2.2.2.2.1 a.1.2.2.2.2.2.2.2.2.2.2.2.2.1 a.1.2.2.2.2.2.2.2.2.2.2.2.2.2.1 a.1.2.2.2.2.2.2.2.2.2.2.2.2.2.2 a.2, spec := fun a => (Sp.f1429 a.1.1 a.1.2.1 a.1.2.2.1 a.1.2.2.2.1 a.1.2.2.2.2.1 a.1.2.2.2.2.2.1 a.1.2.2.2.2.2.2.1 a.1.2.2.2.2.2.2.2.1 a.1.2.2.2.2.2.2.2.2.1 a.1.2.2.2.2.2.2.2.2.2.1 a.1.2.2.2.2.2.2.2.2.2.2.1 a.1.2.2.2.2.2.2.2.2.2.2.2.1 a.1.2.2.2.2.2.2.2.2.2.2.2.2.1 a.1.2.2.2.2.2.2.2.2.2.2.2.2.2.1 a.1.2.2.2.2.2.2.2.2.2.2.2.2.2.2 a.2).1, wrt := fun a => (Sp.f1429 a.1.1 a.1.2.1 a.1.2.2.1 a.1.2.2.2.1 a.1.2.2.2.2.1 a.1.2.2.2.2.2.1 a.1.2.2.2.2.2.2.1 a.1.2.2.2.2.2.2.2.1 a.1.2.2.2.2.2.2.2.2.1 a.1.2.2.2.2.2.2.2.2.2.1 a.1.2.2.2.2.2.2.2.2.2.2.1 a.1.2.2.2.2.2.2.2.2.2.2.2.1 a.1.2.2.2.2.2.2.2.2.2.2.2.2.1 a.1.2.2.2.2.2.2.2.2.2.2.2.2.2.1 a.1.2.2.2.2.2.2.2.2.2.2.2.2.2.2 a.2).2 }
def f1429_g (v : denS [Sh.one (C0.dat Ty.bool)] × denS []) : Res := ⟨mkS [Sh.one (C0.dat Ty.bool)] v.1, mkU [] v.2⟩
theorem f1429_form (x0 x1 : ByteArray) (x2 x3 x4 x5 : Int) (x6 x7 : ByteArray) (x8 x9 : Int) (x10 : ByteArray) (x11 : List ZT) (x12 : List (Int × Rose (Int × Int × ByteArray × ByteArray × Int × Int × ByteArray))) (x13 : ByteArray) (x14 : List ZT) (x15 : List (ByteArray × List (ByteArray × Int × Bool) × Int × List (ByteArray × List Int))) : abody Γ (orc [e1092, e1029, e70, e1445, e1446, e1447, e1359]) 0 73 [XV.mk true [ZC Ty.str x0, ZC Ty.str x1, ZC Zi x2, ZC Zi x3, ZC Zi x4, ZC Zi x5, ZC Ty.str x6, ZC Ty.str x7, ZC Zi x8, ZC Zi x9, ZC Ty.str x10, ZC ZA.rose.slice x11, ZC (Zi.pair ZA.rose).slice x12, ZC Ty.str x13, ZC ZA.rose.slice x14], ZX (Ty.str.pair ((Ty.str.pair (Zi.pair Ty.bool)).slice.pair (Zi.pair (Ty.str.pair Zi.slice).slice))).slice x15] = chk (Sp.f1429_pre x0 x1 x2 x3 x4 x5 x6 x7 x8 x9 x10 x11 x12 x13 x14 x15) (some (f1429_g (Sp.f1429 x0 x1 x2 x3 x4 x5 x6 x7 x8 x9 x10 x11 x12 x13 x14 x15))) := by
  refine Eq.trans (b := chk (Sp.f1092_pre x15 x1) (bif !(Sp.f1092 x15 x1).1.2 then Zf else chk (Sp.f1029_pre x0) (bif !(Sp.f1029 x0).1 then Zf else bif !(Sp.f70 x2 (1 : Int) (3 : Int)).1 then Zf else bif !(Sp.f70 x3 (0 : Int) (100 : Int)).1 then Zf else chk (decide ((0 : Int) ≤ (Sp.f1092 x15 x1).1.1) && decide ((Sp.f1092 x15 x1).1.1 < (↑x15.length : Int))) (chk (Sp.fits32 (x15.getD (Sp.f1092 x15 x1).1.1.toNat (ByteArray.mk #[], [], (0 : Int), [])).2.1) (chk (Sp.f1446_pre x4 x5 x6 x7 x8 x9 x10 x11 (Sp.flds (x15.getD (Sp.f1092 x15 x1).1.1.toNat (ByteArray.mk #[], [], (0 : Int), [])).2.1 x1) (1 : Int)) (bif (Sp.f1446 x4 x5 x6 x7 x8 x9 x10 x11 (Sp.flds (x15.getD (Sp.f1092 x15 x1).1.1.toNat (ByteArray.mk #[], [], (0 : Int), [])).2.1 x1) (1 : Int)).1 then chk (decide ((0 : Int) ≤ (Sp.f1092 x15 x1).1.1) && decide ((Sp.f1092 x15 x1).1.1 < (↑x15.length : Int))) (chk (Sp.setsP x12 (x15.getD (Sp.f1092 x15 x1).1.1.toNat (ByteArray.mk #[], [], (0 : Int), [])).2.1 (x15.getD (Sp.f1092 x15 x1).1.1.toNat (ByteArray.mk #[], [], (0 : Int), [])).2.2.1 (Sp.flds (x15.getD (Sp.f1092 x15 x1).1.1.toNat (ByteArray.mk #[], [], (0 : Int), [])).2.1 x1)) (bif Sp.setsI x2 x12 (x15.getD (Sp.f1092 x15 x1).1.1.toNat (ByteArray.mk #[], [], (0 : Int), [])).2.1 (x15.getD (Sp.f1092 x15 x1).1.1.toNat (ByteArray.mk #[], [], (0 : Int), [])).2.2.1 (Sp.flds (x15.getD (Sp.f1092 x15 x1).1.1.toNat (ByteArray.mk #[], [], (0 : Int), [])).2.1 x1) then chk (Sp.intoP x14 x15 (Sp.flds (x15.getD (Sp.f1092 x15 x1).1.1.toNat (ByteArray.mk #[], [], (0 : Int), [])).2.1 x1)) (ZB (Sp.intoI x13 x14 x15 (Sp.flds (x15.getD (Sp.f1092 x15 x1).1.1.toNat (ByteArray.mk #[], [], (0 : Int), [])).2.1 x1))) else Zf)) else Zf)))))) (by kernel_rfl) ?_
  unfold Sp.f1429_pre Sp.f1429
  exact (chk_step ((cond_step f1429_g ((lift_plain (rfl))) ((chk_step ((cond_step f1429_g ((lift_plain (rfl))) ((cond_step f1429_g ((lift_plain (rfl))) ((cond_step f1429_g ((lift_plain (rfl))) ((chk_step ((chk_step ((chk_step ((cond_step f1429_g ((chk_step ((chk_step ((cond_step f1429_g ((chk_last (rfl))) ((lift_plain (rfl))))))))) ((lift_plain (rfl))))))))))))))))))))))
theorem e1429_ok : Valid PP Γ e1429 := valid_auto ok (vcons e1092_ok (vcons e1029_ok (vcons e70_ok (vcons e1445_ok (vcons e1446_ok (vcons e1447_ok (vcons e1359_ok vnil))))))) fun a => f1429_form a.1.1 a.1.2.1 a.1.2.2.1 a.1.2.2.2.1 a.1.2.2.2.2.1 a.1.2.2.2.2.2.1 a.1.2.2.2.2.2.2.1 a.1.2.2.2.2.2.2.2.1 a.1.2.2.2.2.2.2.2.2.1 a.1.2.2.2.2.2.2.2.2.2.1 a.1.2.2.2.2.2.2.2.2.2.2.1 a.1.2.2.2.2.2.2.2.2.2.2.2.1 a.1.2.2.2.2.2.2.2.2.2.2.2.2.1 a.1.2.2.2.2.2.2.2.2.2.2.2.2.2.1 a.1.2.2.2.2.2.2.2.2.2.2.2.2.2.2 a.2

def Sp.f1415_pre (x0 x1 : ByteArray) (x2 x3 x4 x5 : Int) (x6 x7 : ByteArray) (x8 x9 : Int) (x10 : ByteArray) (x11 : List ZT) (x12 : List (Int × Rose (Int × Int × ByteArray × ByteArray × Int × Int × ByteArray))) (x13 : ByteArray) (x14 : List ZT) (x15 : List (ByteArray × List (ByteArray × Int × Bool) × Int × List (ByteArray × List Int))) : Bool := (Sp.fineTs x15 && (bif Sp.catOK x15 then (Sp.f1429_pre x0 x1 x2 x3 x4 x5 x6 x7 x8 x9 x10 x11 x12 x13 x14 x15) else true))
def Sp.f1415 (x0 x1 : ByteArray) (x2 x3 x4 x5 : Int) (x6 x7 : ByteArray) (x8 x9 : Int) (x10 : ByteArray) (x11 : List ZT) (x12 : List (Int × Rose (Int × Int × ByteArray × ByteArray × Int × Int × ByteArray))) (x13 : ByteArray) (x14 : List ZT) (x15 : List (ByteArray × List (ByteArray × Int × Bool) × Int × List (ByteArray × List Int))) := (bif Sp.catOK x15 then ((Sp.f1429 x0 x1 x2 x3 x4 x5 x6 x7 x8 x9 x10 x11 x12 x13 x14 x15).1, ()) else (false, ()))
noncomputable def e1415 : Ent := { f := 25, ins := [Sh.agg [C0.dat Ty.str, C0.dat Ty.str, C0.dat Zi, C0.dat Zi, C0.dat Zi, C0.dat Zi, C0.dat Ty.str, C0.dat Ty.str, C0.dat Zi, C0.dat Zi, C0.dat Ty.str, C0.dat ZA.rose.slice, C0.dat (Zi.pair ZA.rose).slice, C0.dat Ty.str, C0.dat ZA.rose.slice], Sh.one (C0.dat (Ty.str.pair ((Ty.str.pair (Zi.pair Ty.bool)).slice.pair (Zi.pair (Ty.str.pair Zi.slice).slice))).slice)], outs := [Sh.one (C0.dat Ty.bool)], upd := [], pre := fun a => Sp.f1415_pre a.1.1 a.1.2.1 a.1.2.2.1 a.1.2.2.2.1 a.1.2.2.2.2.1 a.1.2.2.2.2.2.1 a.1.2.2.2.2.2.2.1 a.1.2.2.2.2.2.2.2.1 a.1.2.2.2.2.2.2.2.2.1 a.1.2.2.2.2.2.2.2.2.2.1 a.1.2.2.2.2.2.2.2.2.2.2.1 a.1.2.2.2.2.2.2.2.2.2.2.2.1 a.1.2.2.2.2.2.2.2.2.2.2.2.2.1 a.1.2.2.2.2.2.2.2.2.2.2.2.2.2.1 a.1.2.2.2.2.2.2.2.2.2.2.2.2.2.2 a.2, spec := fun a => (Sp.f1415 a.1.1 a.1.2.1 a.1.2.2.1 a.1.2.2.2.1 a.1.2.2.2.2.1 a.1.2.2.2.2.2.1 a.1.2.2.2.2.2.2.1 a.1.2.2.2.2.2.2.2.1 a.1.2.2.2.2.2.2.2.2.1 a.1.2.2.2.2.2.2.2.2.2.1 a.1.2.2.2.2.2.2.2.2.2.2.1 a.1.2.2.2.2.2.2.2.2.2.2.2.1 a.1.2.2.2.2.2.2.2.2.2.2.2.2.1 a.1.2.2.2.2.2.2.2.2.2.2.2.2.2.1 a.1.2.2.2.2.2.2.2.2.2.2.2.2.2.2 a.2).1, wrt := fun a => (Sp.f1415 a.1.1 a.1.2.1 a.1.2.2.1 a.1.2.2.2.1 a.1.2.2.2.2.1 a.1.2.2.2.2.2.1 a.1.2.2.2.2.2.2.1 a.1.2.2.2.2.2.2.2.1 a.1.2.2.2.2.2.2.2.2.1 a.1.2.2.2.2.2.2.2.2.2.1 a.1.2.2.2.2.2.2.2.2.2.2.1 a.1.2.2.2.2.2.2.2.2.2.2.2.1 a.1.2.2.2.2.2.2.2.2.2.2.2.2.1 a.1.2.2.2.2.2.2.2.2.2.2.2.2.2.1 a.1.2.2.2.2.2.2.2.2.2.2.2.2.2.2 a.2).2 }
def f1415_g (v : denS [Sh.one (C0.dat Ty.bool)] × denS []) : Res := ⟨mkS [Sh.one (C0.dat Ty.bool)] v.1, mkU [] v.2⟩
theorem f1415_form (x0 x1 : ByteArray) (x2 x3 x4 x5 : Int) (x6 x7 : ByteArray) (x8 x9 : Int) (x10 : ByteArray) (x11 : List ZT) (x12 : List (Int × Rose (Int × Int × ByteArray × ByteArray × Int × Int × ByteArray))) (x13 : ByteArray) (x14 : List ZT) (x15 : List (ByteArray × List (ByteArray × Int × Bool) × Int × List (ByteArray × List Int))) : abody Γ (orc [e1090, e1429]) 0 25 [XV.mk true [ZC Ty.str x0, ZC Ty.str x1, ZC Zi x2, ZC Zi x3, ZC Zi x4, ZC Zi x5, ZC Ty.str x6, ZC Ty.str x7, ZC Zi x8, ZC Zi x9, ZC Ty.str x10, ZC ZA.rose.slice x11, ZC (Zi.pair ZA.rose).slice x12, ZC Ty.str x13, ZC ZA.rose.slice x14], ZX (Ty.str.pair ((Ty.str.pair (Zi.pair Ty.bool)).slice.pair (Zi.pair (Ty.str.pair Zi.slice).slice))).slice x15] = chk (Sp.f1415_pre x0 x1 x2 x3 x4 x5 x6 x7 x8 x9 x10 x11 x12 x13 x14 x15) (some (f1415_g (Sp.f1415 x0 x1 x2 x3 x4 x5 x6 x7 x8 x9 x10 x11 x12 x13 x14 x15))) := by
  refine Eq.trans (b := chk (Sp.fineTs x15) (bif Sp.catOK x15 then chk (Sp.f1429_pre x0 x1 x2 x3 x4 x5 x6 x7 x8 x9 x10 x11 x12 x13 x14 x15) (ZB (Sp.f1429 x0 x1 x2 x3 x4 x5 x6 x7 x8 x9 x10 x11 x12 x13 x14 x15).1) else Zf)) (by kernel_rfl) ?_
  unfold Sp.f1415_pre Sp.f1415
  exact (chk_step ((cond_step f1415_g ((chk_last (rfl))) ((lift_plain (rfl))))))
theorem e1415_ok : Valid PP Γ e1415 := valid_auto ok (vcons e1090_ok (vcons e1429_ok vnil)) fun a => f1415_form a.1.1 a.1.2.1 a.1.2.2.1 a.1.2.2.2.1 a.1.2.2.2.2.1 a.1.2.2.2.2.2.1 a.1.2.2.2.2.2.2.1 a.1.2.2.2.2.2.2.2.1 a.1.2.2.2.2.2.2.2.2.1 a.1.2.2.2.2.2.2.2.2.2.1 a.1.2.2.2.2.2.2.2.2.2.2.1 a.1.2.2.2.2.2.2.2.2.2.2.2.1 a.1.2.2.2.2.2.2.2.2.2.2.2.2.1 a.1.2.2.2.2.2.2.2.2.2.2.2.2.2.1 a.1.2.2.2.2.2.2.2.2.2.2.2.2.2.2 a.2

end Go.Proofs.GR.T

set_option maxRecDepth 3000000
set_option maxHeartbeats 100000000
namespace Go.Proofs.GR.T
open Go Go.Proofs Go.Proofs.GR
noncomputable def f1443_L0 (n m0 : Nat) (y0 : ByteArray) (y1 : Int) (y2 : ByteArray) (y3 : List (ByteArray × Int × Bool)) (y4 : Int) (y5 : List (ByteArray × List Int)) : Option Res := loopAt Γ (orc []) n (123 : Nat) (0 : Nat) [] [Pth.r, Pth.l, Pth.r, Pth.b] m0 (St.mk (Slot.val (Val.one Cell.nilS) :: Zn :: ZS Ty.str y0 :: Zn :: Slot.val (Val.one (Cell.ptr (0 : Nat) (0 : Nat))) :: Zn :: Zn :: ZS Zi y1 :: ZN 25 []) [AObj.box (109 : Nat) [Cell.dat Ty.str y2, Cell.dat (Ty.str.pair (Zi.pair Ty.bool)).slice y3, Cell.dat Zi y4, Cell.dat (Ty.str.pair Zi.slice).slice y5]])
noncomputable def f1443_L1 (n m0 : Nat) (y0 : ByteArray) (y1 : Int) (y2 : List (ByteArray × ByteArray × Int)) (y3 : ByteArray) (y4 : List (ByteArray × Int × Bool)) (y5 : Int) (y6 : List (ByteArray × List Int)) : Option Res := loopAt Γ (orc []) n (123 : Nat) (0 : Nat) [] [Pth.r, Pth.l, Pth.r, Pth.b] m0 (St.mk (Slot.val (Val.one (Cell.own (0 : Nat))) :: Zn :: ZS Ty.str y0 :: Zn :: Slot.val (Val.one (Cell.ptr (1 : Nat) (0 : Nat))) :: Zn :: Zn :: ZS Zi y1 :: ZN 25 []) [AObj.row ZF y2 true, AObj.box (109 : Nat) [Cell.dat Ty.str y3, Cell.dat (Ty.str.pair (Zi.pair Ty.bool)).slice y4, Cell.dat Zi y5, Cell.dat (Ty.str.pair Zi.slice).slice y6]])
theorem f1443_L0_step (n m0 : Nat) (y0 : ByteArray) (y1 : Int) (y2 : ByteArray) (y3 : List (ByteArray × Int × Bool)) (y4 : Int) (y5 : List (ByteArray × List Int)) : f1443_L0 n (m0 + 1) y0 y1 y2 y3 y4 y5 = bif decide (y1 < (↑y3.length : Int)) then chk (decide ((0 : Int) ≤ y1) && decide (y1 < (↑y3.length : Int))) (chk (decide ((0 : Int) ≤ y1) && decide (y1 < (↑y3.length : Int))) (chk (decide (((0 : Nat) + [(y0, (y3.getD y1.toNat (ByteArray.mk #[], (0 : Int), false)).1, (y3.getD y1.toNat (ByteArray.mk #[], (0 : Int), false)).2.1)].length) * (40 : Nat) ≤ (140737488355328 : Nat))) (f1443_L1 n m0 y0 (IntKind.i64.wrap (y1 + (1 : Int))) ([] ++ [(y0, (y3.getD y1.toNat (ByteArray.mk #[], (0 : Int), false)).1, (y3.getD y1.toNat (ByteArray.mk #[], (0 : Int), false)).2.1)]) y2 y3 y4 y5))) else some (Res.mk [XV.mk false [X.c (X0.row ZF [] true)]] []) := by kernel_rfl
theorem f1443_L1_step (n m0 : Nat) (y0 : ByteArray) (y1 : Int) (y2 : List (ByteArray × ByteArray × Int)) (y3 : ByteArray) (y4 : List (ByteArray × Int × Bool)) (y5 : Int) (y6 : List (ByteArray × List Int)) : f1443_L1 n (m0 + 1) y0 y1 y2 y3 y4 y5 y6 = bif decide (y1 < (↑y4.length : Int)) then chk (decide ((0 : Int) ≤ y1) && decide (y1 < (↑y4.length : Int))) (chk (decide ((0 : Int) ≤ y1) && decide (y1 < (↑y4.length : Int))) (chk (decide ((y2.length + [(y0, (y4.getD y1.toNat (ByteArray.mk #[], (0 : Int), false)).1, (y4.getD y1.toNat (ByteArray.mk #[], (0 : Int), false)).2.1)].length) * (40 : Nat) ≤ (140737488355328 : Nat))) (f1443_L1 n m0 y0 (IntKind.i64.wrap (y1 + (1 : Int))) (y2 ++ [(y0, (y4.getD y1.toNat (ByteArray.mk #[], (0 : Int), false)).1, (y4.getD y1.toNat (ByteArray.mk #[], (0 : Int), false)).2.1)]) y3 y4 y5 y6))) else some (Res.mk [XV.mk false [X.c (X0.row ZF y2 true)]] []) := by kernel_rfl
theorem f1443_raw (n : Nat) (x0 : ByteArray) (x1 : List (ByteArray × Int × Bool)) (x2 : Int) (x3 : List (ByteArray × List Int)) (x4 : ByteArray) : abody Γ (orc []) n 123 [XV.mk false [X.c X0.nilS], XV.mk true [ZC Ty.str x0, ZC (Ty.str.pair (Zi.pair Ty.bool)).slice x1, ZC Zi x2, ZC (Ty.str.pair Zi.slice).slice x3], ZX Ty.str x4] = f1443_L0 n n x4 (0 : Int) x0 x1 x2 x3 := by kernel_rfl

theorem fields_loop (n : Nat) (t0 : ByteArray) (cs : List VCo) (t2 : Int) (t3 : List VIx) (of : ByteArray) (hl : cs.length ≤ 1000000000000) :
    ∀ (d k m : Nat) (acc : List VF), k + d = cs.length → d < m → acc.length = 0 + k → f1443_L1 n m of k acc t0 cs t2 t3 = some (rF (acc ++ (cs.drop k).map (Sp.fld of))) :=
  push_loop (f := Sp.fld of) (R := rF) cs 0 (fun m k acc => f1443_L1 n m of k acc t0 cs t2 t3) (fun m k acc hk => by
    show f1443_L1 _ _ _ _ _ _ _ _ _ = _
    rw [f1443_L1_step, nat_ge hk, cond_false]) (fun m k acc h hacc => by
    show f1443_L1 _ _ _ _ _ _ _ _ _ = _
    rw [f1443_L1_step, nat_lt h, cond_true, guard0, chkT, chkT, getD_nat cs k _ h, next64 h (by omega)]
    show chk (decide ((acc.length + 1) * 40 ≤ 140737488355328)) _ = _
    rw [push_ok (by omega) (by decide), chkT]
    rfl)
noncomputable def e1443 : Ent := { f := n1443, ins := [Sh.one C0.nilS, Sh.agg aTb, Sh.one cS], outs := [Sh.one (C0.row tF)], upd := [], pre := fun a => Sp.fits32 (α := VCo) a.2.1.2.1, spec := fun a => Sp.flds a.2.1.2.1 a.2.2, wrt := fun _ => () }
theorem e1443_core (t0 : ByteArray) (cs : List VCo) (t2 : Int) (t3 : List VIx) (of : ByteArray) (ha : Sp.fits32 cs = true) : ∃ n, abody Γ (orc []) n n1443 (e1443.args ((), (t0, cs, t2, t3), of)) = some (rF (Sp.flds cs of)) := by
  have hl := fits32_of ha
  refine ⟨cs.length + 1, (f1443_raw _ t0 cs t2 t3 of).trans ?_⟩
  rw [f1443_L0_step]
  cases hcs : cs with
  | nil => rfl
  | cons c r =>
    rw [← hcs]
    have h : 0 < cs.length := by rw [hcs]; exact Nat.succ_pos _
    have q := nat_lt (k := 0) (n := cs.length) h
    have g := getD_nat cs 0 (ByteArray.mk #[], (0 : Int), false) h
    have w := next64 (k := 0) h (by omega)
    rw [Int.natCast_zero] at q g w
    rw [q, cond_true, show (decide ((0 : Int) ≤ 0) && true) = true from rfl, chkT, chkT, g, w]
    refine (chkP (by exact (by decide : decide ((0 + 1) * 40 ≤ 140737488355328) = true)) _).trans ?_
    have L := fields_loop (cs.length + 1) t0 cs t2 t3 of hl (cs.length - 1) 1 cs.length [Sp.fld of cs[0]] (by omega) (by omega) rfl
    refine L.trans ?_
    have e : Sp.flds cs of = [Sp.fld of cs[0]] ++ (cs.drop 1).map (Sp.fld of) := by
      have := List.drop_eq_getElem_cons h
      rw [List.drop_zero] at this
      unfold Sp.flds
      conv => lhs; rw [this]
      rfl
    rw [e]
theorem e1443_ok : Valid PP Γ e1443 := valid_of ok vnil fun a ha => e1443_core a.2.1.1 a.2.1.2.1 a.2.1.2.2.1 a.2.1.2.2.2 a.2.2 ha
noncomputable def f1486_L0 (n m0 : Nat) (y0 : List (ByteArray × ByteArray × Int)) (y1 y2 : ByteArray) (y3 y4 : Int) : Option Res := loopAt Γ (orc []) n (239 : Nat) (0 : Nat) [] [Pth.r, Pth.r, Pth.l, Pth.r, Pth.b] m0 (St.mk (ZS ZF.slice y0 :: ZS Ty.str y1 :: ZS Ty.str y2 :: ZN 5 (ZS Zi y3 :: ZS Zi y4 :: ZN 32 [])) [])
theorem f1486_L0_step (n m0 : Nat) (y0 : List (ByteArray × ByteArray × Int)) (y1 y2 : ByteArray) (y3 y4 : Int) : f1486_L0 n (m0 + 1) y0 y1 y2 y3 y4 = bif decide (y4 < (↑y0.length : Int)) then chk (decide ((0 : Int) ≤ y4) && decide (y4 < (↑y0.length : Int))) (bif !(y0.getD y4.toNat (ByteArray.mk #[], ByteArray.mk #[], (0 : Int))).2.1.toList == y2.toList then f1486_L0 n m0 y0 y1 y2 y3 (IntKind.i64.wrap (y4 + (1 : Int))) else bif !y1.toList == (ByteArray.mk #[]).toList then chk (decide ((0 : Int) ≤ y4) && decide (y4 < (↑y0.length : Int))) (bif !(y0.getD y4.toNat (ByteArray.mk #[], ByteArray.mk #[], (0 : Int))).1.toList == y1.toList then f1486_L0 n m0 y0 y1 y2 y3 (IntKind.i64.wrap (y4 + (1 : Int))) else bif decide (y3 ≥ (0 : Int)) then some (Res.mk [ZX Zi (0 : Int), ZX Zi (9 : Int)] []) else f1486_L0 n m0 y0 y1 y2 y4 (IntKind.i64.wrap (y4 + (1 : Int)))) else bif decide (y3 ≥ (0 : Int)) then some (Res.mk [ZX Zi (0 : Int), ZX Zi (9 : Int)] []) else f1486_L0 n m0 y0 y1 y2 y4 (IntKind.i64.wrap (y4 + (1 : Int)))) else bif decide (y3 < (0 : Int)) then some (Res.mk [ZX Zi (0 : Int), ZX Zi (11 : Int)] []) else some (Res.mk [ZX Zi y3, ZX Zi (0 : Int)] []) := by kernel_rfl
theorem f1486_raw (n : Nat) (x0 : List (ByteArray × ByteArray × Int)) (x1 x2 : ByteArray) : abody Γ (orc []) n 239 [ZX ZF.slice x0, ZX Ty.str x1, ZX Ty.str x2] = f1486_L0 n n x0 x1 x2 (-1 : Int) (0 : Int) := by kernel_rfl

noncomputable def e1486 : Ent := { f := n1486, ins := [Sh.one (cL tF), Sh.one cS, Sh.one cS], outs := [Sh.one cI, Sh.one cI], upd := [], pre := fun _ => true, spec := fun a => Sp.findF a.1 a.2.1 a.2.2, wrt := fun _ => () }
theorem e1486_core (xs : List VF) (of name : ByteArray) (hl : xs.length ≤ maxLen) : ∃ n, abody Γ (orc []) n n1486 [ZX (Ty.slice tF) xs, ZX Ty.str of, ZX Ty.str name] = some (r2 (Sp.findF xs of name)) := by
  have hl : xs.length ≤ 9223372036854775807 := hl
  refine ⟨xs.length + 1, (f1486_raw _ xs of name).trans ?_⟩
  refine find_loop (p := Sp.fIs of name) xs (fun m c k => f1486_L0 (xs.length + 1) m xs of name c k) (fun m c k hk => ?_) (fun m c k h => ?_) xs.length 0 _ (-1) (Nat.zero_add _) (Nat.lt_succ_self _)
  · show f1486_L0 _ _ _ _ _ _ _ = _
    rw [f1486_L0_step, nat_ge hk, cond_false]
  · show f1486_L0 _ _ _ _ _ _ _ = _
    rw [f1486_L0_step, nat_lt h, cond_true, guard0, chkT, getD_nat xs k _ h, next64 h hl]
    unfold Sp.fIs
    cases xs[k].2.1.toList == name.toList <;> cases of.toList == (ByteArray.mk #[]).toList <;> cases xs[k].1.toList == of.toList <;> rfl
theorem e1486_ok : Valid PP Γ e1486 := valid_len ok vnil fun a _ hl => e1486_core a.1 a.2.1 a.2.2 (hl _ (List.mem_cons_self) _ (List.mem_cons_self)).1
end Go.Proofs.GR.T

