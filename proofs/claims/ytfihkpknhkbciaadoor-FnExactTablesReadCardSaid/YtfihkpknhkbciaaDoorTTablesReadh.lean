/-
  No statement is proved here: what the functions of the law answer, told as plain functions, and that the law's answer is always true.
  No condition.
-/
import Derived.Test.YtfihkpknhkbciaaDoorTTablesReadg
set_option maxRecDepth 100000
set_option maxHeartbeats 100000000
namespace Go.Proofs.GR.T
open Go Go.Proofs Go.Proofs.GR
def Sp.isAnd (a : VA) : Bool := bif a.1 == 16 then a.2.2.1.toList == (ByteArray.mk #[97, 110, 100]).toList else false
mutual
def Sp.conjT : RT → List RT
  | .mk a ks => bif Sp.isAnd a then Sp.conj2 ks else [.mk a ks]
def Sp.conj2 : List RT → List RT
  | r :: s :: _ => Sp.conjT r ++ Sp.conjT s
  | _ => []
end
mutual
def Sp.andT : RT → Bool
  | .mk a ks => bif Sp.isAnd a then Sp.and2 ks else true
def Sp.and2 : List RT → Bool
  | r :: s :: _ => Sp.andT r && Sp.andT s
  | _ => false
end
end Go.Proofs.GR.T

set_option maxRecDepth 1000000
set_option maxHeartbeats 100000000
namespace Go.Proofs.GR.T
open Go Go.Proofs Go.Proofs.GR
end Go.Proofs.GR.T

set_option maxRecDepth 1000000
set_option maxHeartbeats 100000000
namespace Go.Proofs.GR.T
open Go Go.Proofs Go.Proofs.GR
theorem ops0 (t : ByteArray) : Sp.inOps t 0 = (false) := idx_any (Sp.sameS t) (Sp.f1038 0).1 0 (Int.le_refl 0)
theorem ops1 (t : ByteArray) : Sp.inOps t 1 = (bif (t.toList == (ByteArray.mk #[111, 114]).toList) then true else false) := idx_any (Sp.sameS t) (Sp.f1038 1).1 0 (Int.le_refl 0)
theorem ops2 (t : ByteArray) : Sp.inOps t 2 = (bif (t.toList == (ByteArray.mk #[97, 110, 100]).toList) then true else false) := idx_any (Sp.sameS t) (Sp.f1038 2).1 0 (Int.le_refl 0)
theorem ops3 (t : ByteArray) : Sp.inOps t 3 = (false) := idx_any (Sp.sameS t) (Sp.f1038 3).1 0 (Int.le_refl 0)
theorem ops4 (t : ByteArray) : Sp.inOps t 4 = (bif (t.toList == (ByteArray.mk #[61]).toList) then true else bif (t.toList == (ByteArray.mk #[60, 62]).toList) then true else bif (t.toList == (ByteArray.mk #[60]).toList) then true else bif (t.toList == (ByteArray.mk #[60, 61]).toList) then true else bif (t.toList == (ByteArray.mk #[62]).toList) then true else bif (t.toList == (ByteArray.mk #[62, 61]).toList) then true else false) := idx_any (Sp.sameS t) (Sp.f1038 4).1 0 (Int.le_refl 0)
theorem ops5 (t : ByteArray) : Sp.inOps t 5 = (bif (t.toList == (ByteArray.mk #[43]).toList) then true else bif (t.toList == (ByteArray.mk #[45]).toList) then true else false) := idx_any (Sp.sameS t) (Sp.f1038 5).1 0 (Int.le_refl 0)
theorem ops6 (t : ByteArray) : Sp.inOps t 6 = (bif (t.toList == (ByteArray.mk #[42]).toList) then true else bif (t.toList == (ByteArray.mk #[47]).toList) then true else bif (t.toList == (ByteArray.mk #[37]).toList) then true else false) := idx_any (Sp.sameS t) (Sp.f1038 6).1 0 (Int.le_refl 0)
theorem lev_pos (t : ByteArray) : decide (Sp.lev t > 0) = decide ((Sp.f1023 t).1 > 0) := by
  unfold Sp.lev
  rw [ops0, ops1, ops2, ops3, ops4, ops5, ops6]
  unfold Sp.f1023
  generalize (t.toList == (ByteArray.mk #[111, 114]).toList) = b0
  generalize (t.toList == (ByteArray.mk #[97, 110, 100]).toList) = b1
  generalize (t.toList == (ByteArray.mk #[61]).toList) = b2
  generalize (t.toList == (ByteArray.mk #[60, 62]).toList) = b3
  generalize (t.toList == (ByteArray.mk #[60]).toList) = b4
  generalize (t.toList == (ByteArray.mk #[60, 61]).toList) = b5
  generalize (t.toList == (ByteArray.mk #[62]).toList) = b6
  generalize (t.toList == (ByteArray.mk #[62, 61]).toList) = b7
  generalize (t.toList == (ByteArray.mk #[43]).toList) = b8
  generalize (t.toList == (ByteArray.mk #[45]).toList) = b9
  generalize (t.toList == (ByteArray.mk #[42]).toList) = b10
  generalize (t.toList == (ByteArray.mk #[47]).toList) = b11
  generalize (t.toList == (ByteArray.mk #[37]).toList) = b12
  cases b0 with
  | true => rfl
  | false =>
    simp only [cond_true, cond_false]
    cases b1 with
    | true => rfl
    | false =>
      simp only [cond_true, cond_false]
      cases b2 with
      | true => rfl
      | false =>
        simp only [cond_true, cond_false]
        cases b3 with
        | true => rfl
        | false =>
          simp only [cond_true, cond_false]
          cases b4 with
          | true => rfl
          | false =>
            simp only [cond_true, cond_false]
            cases b5 with
            | true => rfl
            | false =>
              simp only [cond_true, cond_false]
              cases b6 with
              | true => rfl
              | false =>
                simp only [cond_true, cond_false]
                cases b7 with
                | true => rfl
                | false =>
                  simp only [cond_true, cond_false]
                  cases b8 with
                  | true => rfl
                  | false =>
                    simp only [cond_true, cond_false]
                    cases b9 with
                    | true => rfl
                    | false =>
                      simp only [cond_true, cond_false]
                      cases b10 with
                      | true => rfl
                      | false =>
                        simp only [cond_true, cond_false]
                        cases b11 with
                        | true => rfl
                        | false =>
                          simp only [cond_true, cond_false]
                          cases b12 with
                          | true => rfl
                          | false =>
                            simp only [cond_true, cond_false]
theorem sameS_comm (t w : ByteArray) : (w.toList == t.toList) = Sp.sameS t w := by
  unfold Sp.sameS
  rw [Bool.eq_iff_iff, beq_iff_eq, beq_iff_eq]
  exact eq_comm
theorem free_eq (t : ByteArray) : (Sp.f1029 t).1 = Sp.isFreeS t := by
  unfold Sp.f1029 Sp.isFreeS
  rw [reserved_eq]
  generalize Sp.f209.1 = ws
  have e : (Sp.f1031 ws t).1 = Sp.anyW (Sp.sameS t) ws := idx_any (Sp.sameS t) ws 0 (Int.le_refl 0)
  have e2 : (fun w : ByteArray => !(w.toList == t.toList)) = fun w => !Sp.sameS t w := funext fun w => congrArg Bool.not (sameS_comm t w)
  rw [e2]
  cases Sp.isName (strBytes t) with
  | false => rfl
  | true =>
    show (!(Sp.f1031 ws t).1) = _
    rw [e, anyW_all, Bool.not_not]
    rfl
theorem un4_eq (t : ByteArray) : (Sp.f1031 Sp.unNames t).1 = Sp.un4 t := by
  have e : (Sp.f1031 Sp.unNames t).1 = Sp.anyW (Sp.sameS t) Sp.unNames := idx_any (Sp.sameS t) Sp.unNames 0 (Int.le_refl 0)
  rw [e]
  unfold Sp.un4 Sp.isW Sp.unNames
  simp only [Sp.anyW, Sp.sameS]
  congr 3
  cases t.toList == (ByteArray.mk #[105, 115, 110, 111, 116, 110, 117, 108, 108]).toList <;> rfl
theorem ag4_eq (t : ByteArray) : (Sp.f1031 Sp.f1033.1 t).1 = Sp.ag4 t := by
  have e : (Sp.f1031 Sp.f1033.1 t).1 = Sp.anyW (Sp.sameS t) Sp.f1033.1 := idx_any (Sp.sameS t) Sp.f1033.1 0 (Int.le_refl 0)
  rw [e]
  unfold Sp.ag4 Sp.isW Sp.f1033
  simp only [Sp.anyW, Sp.sameS]
  congr 3
  cases t.toList == (ByteArray.mk #[109, 97, 120]).toList <;> rfl
theorem has13 (a : VA) (ks : List RT) : Sp.hasT a ks false false false true 0 = bif a.2.1 == 0 then bif Sp.mt a.2.2.1 then bif Sp.mt a.2.2.2.1 then (ks.length : Int) == 0 else false else false else false := by
  unfold Sp.hasT Sp.f1028 Sp.mt
  simp only [cond_true, cond_false, show decide ((0 : Int) < 0) = false from rfl]
  cases a.2.1 == 0 <;> cases a.2.2.1.toList == (ByteArray.mk #[]).toList <;> cases a.2.2.2.1.toList == (ByteArray.mk #[]).toList <;> rfl
theorem has14 (a : VA) (ks : List RT) : Sp.hasT a ks false true true false 0 = bif a.2.1 == 0 then bif Sp.noV a.2.2.2.2 then (ks.length : Int) == 0 else false else false := by
  unfold Sp.hasT Sp.f1028 Sp.noV
  simp only [cond_true, cond_false, show decide ((0 : Int) < 0) = false from rfl]
  generalize (Go.Proofs.GR.eqI a.2.2.2.2.1 (0 : Int) && (Go.Proofs.GR.eqI a.2.2.2.2.2.1 (0 : Int) && (Go.Proofs.GR.eqS a.2.2.2.2.2.2 ByteArray.empty && true))) = v
  cases a.2.1 == 0 <;> cases v <;> rfl
theorem hasN (a : VA) (ks : List RT) (n : Int) : Sp.hasT a ks false true false false n = bif a.2.1 == 0 then bif Sp.mt a.2.2.2.1 then bif Sp.noV a.2.2.2.2 then bif decide (n < 0) then true else (ks.length : Int) == n else false else false else false := by
  unfold Sp.hasT Sp.f1028 Sp.noV Sp.mt
  simp only [cond_true, cond_false]
  generalize (Go.Proofs.GR.eqI a.2.2.2.2.1 (0 : Int) && (Go.Proofs.GR.eqI a.2.2.2.2.2.1 (0 : Int) && (Go.Proofs.GR.eqS a.2.2.2.2.2.2 ByteArray.empty && true))) = v
  cases a.2.1 == 0 <;> cases v <;> cases a.2.2.2.1.toList == (ByteArray.mk #[]).toList <;> cases decide (n < 0) <;> rfl
theorem f171_136 (x y : Int) (t : ByteArray) : (Sp.f171 x y t).1 = (Sp.f136 x y t).1 := by
  unfold Sp.f171 Sp.f136
  cases x == 0 <;> cases x == 1 <;> cases x == 2 <;> try rfl
  show (bif (Sp.f167 x).1 then _ else _ : Bool × Unit).1 = _
  unfold Sp.f167
  cases x == 3 <;> cases x == 4 <;> rfl
theorem xBad_l {ks : List RT} (ih : ∀ r ∈ ks, ∀ g, Sp.xOK r g = Sp.lT r g) (g : Bool) : Sp.xBad ks g = Sp.anyW (fun r => !Sp.lT r g) ks := by
  rw [← xBad_any]
  exact anyW_congr fun r hr => by rw [ih r hr g]
theorem xOK_eq : ∀ (r : RT) (g : Bool), Sp.xOK r g = Sp.lT r g :=
  Rose.ind fun a ks ih g => by
    rw [Sp.xOK, lT_mk, xBad_l ih]
    unfold Sp.xNode Sp.lNode
    rw [has13, has14, hasN, hasN, hasN, free_eq, un4_eq, ag4_eq, lev_pos, f171_136]
    have eF : (Sp.f1030 a.2.2.2.1).1 = bif Sp.mt a.2.2.2.1 then true else Sp.isFreeS a.2.2.2.1 := by
      unfold Sp.f1030 Sp.mt
      rw [free_eq]
      cases a.2.2.2.1.toList == (ByteArray.mk #[]).toList <;> rfl
    rw [eF, List.length_map]
    clear eF
    have bn : (a.1 != 17) = !(a.1 == 17) := rfl
    rw [bn]
    match ks with
    | [] =>
      have a0 : (((([] : List RT)).length : Int) == 0) = true := rfl
      have a1 : (((([] : List RT)).length : Int) == 1) = false := rfl
      have a2 : (((([] : List RT)).length : Int) == 2) = false := rfl
      rw [a0, a1, a2]
      by_cases h7 : a.1 = 17
      · rw [h7]
        rw [show ((17 : Int) == 13) = false from rfl, show ((17 : Int) == 14) = false from rfl, show ((17 : Int) == 15) = false from rfl, show ((17 : Int) == 16) = false from rfl, show ((17 : Int) == 17) = true from rfl]
        simp only [Sp.anyW, cond_true, cond_false, Bool.not_true, show decide ((0 : Int) < 0) = false from rfl, show decide ((1 : Int) < 0) = false from rfl, show decide ((2 : Int) < 0) = false from rfl, show decide ((-1 : Int) < 0) = true from rfl]
        generalize (a.2.1 == 0) = n0, Sp.mt a.2.2.1 = m1, Sp.mt a.2.2.2.1 = m2, Sp.noV a.2.2.2.2 = v, (Sp.f136 a.2.2.2.2.1 a.2.2.2.2.2.1 a.2.2.2.2.2.2).1 = f, Sp.isFreeS a.2.2.1 = i1, Sp.isFreeS a.2.2.2.1 = i2, Sp.un4 a.2.2.1 = u, Sp.ag4 a.2.2.1 = ag
        cases g <;> cases n0 <;> cases m2 <;> cases v <;> cases ag <;> rfl
      · rw [show (a.1 == 17) = false from beq_false_of_ne h7]
        generalize (a.1 == 13) = k3, (a.1 == 14) = k4, (a.1 == 15) = k5, (a.1 == 16) = k6
        simp only [Sp.anyW, cond_true, cond_false, Bool.not_false, show decide ((0 : Int) < 0) = false from rfl, show decide ((1 : Int) < 0) = false from rfl, show decide ((2 : Int) < 0) = false from rfl, show decide ((-1 : Int) < 0) = true from rfl]
        generalize (a.2.1 == 0) = n0, Sp.mt a.2.2.1 = m1, Sp.mt a.2.2.2.1 = m2, Sp.noV a.2.2.2.2 = v, (Sp.f136 a.2.2.2.2.1 a.2.2.2.2.2.1 a.2.2.2.2.2.2).1 = f, Sp.isFreeS a.2.2.1 = i1, Sp.isFreeS a.2.2.2.1 = i2, Sp.un4 a.2.2.1 = u, Sp.ag4 a.2.2.1 = ag
        have gg : (bif g then true else false) = g := by cases g <;> rfl
        try rw [gg]
        cases k3
        · cases k4
          · cases k5
            · cases k6
              · rfl
              · cases n0 <;> cases m2 <;> cases v <;> cases decide ((Sp.f1023 a.2.2.1).1 > 0) <;> rfl
            · cases n0 <;> cases m2 <;> cases v <;> cases u <;> rfl
          · cases n0 <;> cases m2 <;> cases v <;> cases i1 <;> cases i2 <;> rfl
        · cases n0 <;> cases m1 <;> cases m2 <;> cases f <;> rfl
    | [r] =>
      have a0 : (((([r] : List RT)).length : Int) == 0) = false := rfl
      have a1 : (((([r] : List RT)).length : Int) == 1) = true := rfl
      have a2 : (((([r] : List RT)).length : Int) == 2) = false := rfl
      have gf : ([r].map Sp.lT).getD 0 (fun _ => false) = Sp.lT r := rfl
      rw [a0, a1, a2, gf]
      by_cases h7 : a.1 = 17
      · rw [h7]
        rw [show ((17 : Int) == 13) = false from rfl, show ((17 : Int) == 14) = false from rfl, show ((17 : Int) == 15) = false from rfl, show ((17 : Int) == 16) = false from rfl, show ((17 : Int) == 17) = true from rfl]
        simp only [Sp.anyW, cond_true, cond_false, Bool.not_true, show decide ((0 : Int) < 0) = false from rfl, show decide ((1 : Int) < 0) = false from rfl, show decide ((2 : Int) < 0) = false from rfl, show decide ((-1 : Int) < 0) = true from rfl]
        generalize (a.2.1 == 0) = n0, Sp.mt a.2.2.1 = m1, Sp.mt a.2.2.2.1 = m2, Sp.noV a.2.2.2.2 = v, (Sp.f136 a.2.2.2.2.1 a.2.2.2.2.2.1 a.2.2.2.2.2.2).1 = f, Sp.isFreeS a.2.2.1 = i1, Sp.isFreeS a.2.2.2.1 = i2, Sp.un4 a.2.2.1 = u, Sp.ag4 a.2.2.1 = ag
        have gf0 : (bif g then false else false) = false := by cases g <;> rfl
        rw [gf0]
        cases g <;> cases n0 <;> cases m2 <;> cases v <;> cases ag <;> cases Sp.lT r false <;> rfl
      · rw [show (a.1 == 17) = false from beq_false_of_ne h7]
        generalize (a.1 == 13) = k3, (a.1 == 14) = k4, (a.1 == 15) = k5, (a.1 == 16) = k6
        simp only [Sp.anyW, cond_true, cond_false, Bool.not_false, show decide ((0 : Int) < 0) = false from rfl, show decide ((1 : Int) < 0) = false from rfl, show decide ((2 : Int) < 0) = false from rfl, show decide ((-1 : Int) < 0) = true from rfl]
        generalize (a.2.1 == 0) = n0, Sp.mt a.2.2.1 = m1, Sp.mt a.2.2.2.1 = m2, Sp.noV a.2.2.2.2 = v, (Sp.f136 a.2.2.2.2.1 a.2.2.2.2.2.1 a.2.2.2.2.2.2).1 = f, Sp.isFreeS a.2.2.1 = i1, Sp.isFreeS a.2.2.2.1 = i2, Sp.un4 a.2.2.1 = u, Sp.ag4 a.2.2.1 = ag
        have gg : (bif g then true else false) = g := by cases g <;> rfl
        try rw [gg]
        cases k3
        · cases k4
          · cases k5
            · cases k6
              · cases Sp.lT r g <;> rfl
              · cases Sp.lT r g <;> cases n0 <;> cases m2 <;> cases v <;> cases decide ((Sp.f1023 a.2.2.1).1 > 0) <;> rfl
            · cases Sp.lT r g <;> cases n0 <;> cases m2 <;> cases v <;> cases u <;> rfl
          · cases Sp.lT r g <;> cases n0 <;> cases m2 <;> cases v <;> cases i1 <;> cases i2 <;> rfl
        · cases Sp.lT r g <;> cases n0 <;> cases m1 <;> cases m2 <;> rfl
    | [r, s] =>
      have a0 : (((([r, s] : List RT)).length : Int) == 0) = false := rfl
      have a1 : (((([r, s] : List RT)).length : Int) == 1) = false := rfl
      have a2 : (((([r, s] : List RT)).length : Int) == 2) = true := rfl
      have gf : ([r, s].map Sp.lT).getD 0 (fun _ => false) = Sp.lT r := rfl
      have gs : ([r, s].map Sp.lT).getD 1 (fun _ => false) = Sp.lT s := rfl
      rw [a0, a1, a2, gf, gs]
      by_cases h7 : a.1 = 17
      · rw [h7]
        rw [show ((17 : Int) == 13) = false from rfl, show ((17 : Int) == 14) = false from rfl, show ((17 : Int) == 15) = false from rfl, show ((17 : Int) == 16) = false from rfl, show ((17 : Int) == 17) = true from rfl]
        simp only [Sp.anyW, cond_true, cond_false, Bool.not_true, show decide ((0 : Int) < 0) = false from rfl, show decide ((1 : Int) < 0) = false from rfl, show decide ((2 : Int) < 0) = false from rfl, show decide ((-1 : Int) < 0) = true from rfl]
        generalize (a.2.1 == 0) = n0, Sp.mt a.2.2.1 = m1, Sp.mt a.2.2.2.1 = m2, Sp.noV a.2.2.2.2 = v, (Sp.f136 a.2.2.2.2.1 a.2.2.2.2.2.1 a.2.2.2.2.2.2).1 = f, Sp.isFreeS a.2.2.1 = i1, Sp.isFreeS a.2.2.2.1 = i2, Sp.un4 a.2.2.1 = u, Sp.ag4 a.2.2.1 = ag
        have gf0 : (bif g then false else false) = false := by cases g <;> rfl
        rw [gf0]
        cases g <;> cases n0 <;> cases m2 <;> cases v <;> cases ag <;> cases Sp.lT r false <;> cases Sp.lT s false <;> rfl
      · rw [show (a.1 == 17) = false from beq_false_of_ne h7]
        generalize (a.1 == 13) = k3, (a.1 == 14) = k4, (a.1 == 15) = k5, (a.1 == 16) = k6
        simp only [Sp.anyW, cond_true, cond_false, Bool.not_false, show decide ((0 : Int) < 0) = false from rfl, show decide ((1 : Int) < 0) = false from rfl, show decide ((2 : Int) < 0) = false from rfl, show decide ((-1 : Int) < 0) = true from rfl]
        generalize (a.2.1 == 0) = n0, Sp.mt a.2.2.1 = m1, Sp.mt a.2.2.2.1 = m2, Sp.noV a.2.2.2.2 = v, (Sp.f136 a.2.2.2.2.1 a.2.2.2.2.2.1 a.2.2.2.2.2.2).1 = f, Sp.isFreeS a.2.2.1 = i1, Sp.isFreeS a.2.2.2.1 = i2, Sp.un4 a.2.2.1 = u, Sp.ag4 a.2.2.1 = ag
        have gg : (bif g then true else false) = g := by cases g <;> rfl
        try rw [gg]
        cases k3
        · cases k4
          · cases k5
            · cases k6
              · cases Sp.lT r g <;> cases Sp.lT s g <;> rfl
              · cases Sp.lT r g <;> cases Sp.lT s g <;> cases n0 <;> cases m2 <;> cases v <;> cases decide ((Sp.f1023 a.2.2.1).1 > 0) <;> rfl
            · cases Sp.lT r g <;> cases Sp.lT s g <;> cases n0 <;> cases m2 <;> cases v <;> cases u <;> rfl
          · cases Sp.lT r g <;> cases Sp.lT s g <;> cases n0 <;> cases m2 <;> cases v <;> cases i1 <;> cases i2 <;> rfl
        · cases Sp.lT r g <;> cases Sp.lT s g <;> cases n0 <;> cases m1 <;> cases m2 <;> rfl
    | r :: s :: t :: l =>
      have ln : ((r :: s :: t :: l : List RT).length : Int) = (l.length : Int) + 3 := by simp only [List.length_cons]; omega
      have a0 : (((r :: s :: t :: l : List RT).length : Int) == 0) = false := by rw [ln]; exact beq_false_of_ne (by omega)
      have a1 : (((r :: s :: t :: l : List RT).length : Int) == 1) = false := by rw [ln]; exact beq_false_of_ne (by omega)
      have a2 : (((r :: s :: t :: l : List RT).length : Int) == 2) = false := by rw [ln]; exact beq_false_of_ne (by omega)
      have gA : ∀ g, Sp.anyW (fun r => !Sp.lT r g) (r :: s :: t :: l) = true ∨ Sp.anyW (fun r => !Sp.lT r g) (r :: s :: t :: l) = false := fun g => by cases Sp.anyW (fun r => !Sp.lT r g) (r :: s :: t :: l) <;> simp
      rw [a0, a1, a2]
      generalize (Sp.anyW (fun r' => !Sp.lT r' (bif g then !(a.1 == 17) else false)) (r :: s :: t :: l)) = w
      by_cases h7 : a.1 = 17
      · rw [h7]
        rw [show ((17 : Int) == 13) = false from rfl, show ((17 : Int) == 14) = false from rfl, show ((17 : Int) == 15) = false from rfl, show ((17 : Int) == 16) = false from rfl, show ((17 : Int) == 17) = true from rfl]
        simp only [Sp.anyW, cond_true, cond_false, Bool.not_true, show decide ((0 : Int) < 0) = false from rfl, show decide ((1 : Int) < 0) = false from rfl, show decide ((2 : Int) < 0) = false from rfl, show decide ((-1 : Int) < 0) = true from rfl]
        generalize (a.2.1 == 0) = n0, Sp.mt a.2.2.1 = m1, Sp.mt a.2.2.2.1 = m2, Sp.noV a.2.2.2.2 = v, (Sp.f136 a.2.2.2.2.1 a.2.2.2.2.2.1 a.2.2.2.2.2.2).1 = f, Sp.isFreeS a.2.2.1 = i1, Sp.isFreeS a.2.2.2.1 = i2, Sp.un4 a.2.2.1 = u, Sp.ag4 a.2.2.1 = ag
        cases w <;> cases g <;> cases n0 <;> cases m2 <;> cases v <;> cases ag <;> rfl
      · try rw [show (a.1 == 17) = false from beq_false_of_ne h7]
        generalize (a.1 == 13) = k3, (a.1 == 14) = k4, (a.1 == 15) = k5, (a.1 == 16) = k6
        simp only [Sp.anyW, cond_true, cond_false, Bool.not_false, show decide ((0 : Int) < 0) = false from rfl, show decide ((1 : Int) < 0) = false from rfl, show decide ((2 : Int) < 0) = false from rfl, show decide ((-1 : Int) < 0) = true from rfl]
        generalize (a.2.1 == 0) = n0, Sp.mt a.2.2.1 = m1, Sp.mt a.2.2.2.1 = m2, Sp.noV a.2.2.2.2 = v, (Sp.f136 a.2.2.2.2.1 a.2.2.2.2.2.1 a.2.2.2.2.2.2).1 = f, Sp.isFreeS a.2.2.1 = i1, Sp.isFreeS a.2.2.2.1 = i2, Sp.un4 a.2.2.1 = u, Sp.ag4 a.2.2.1 = ag
        have gg : (bif g then true else false) = g := by cases g <;> rfl
        try rw [gg]
        cases k3
        · cases k4
          · cases k5
            · cases k6
              · cases w <;> rfl
              · cases w <;> cases n0 <;> cases m2 <;> cases v <;> cases decide ((Sp.f1023 a.2.2.1).1 > 0) <;> rfl
            · cases w <;> cases n0 <;> cases m2 <;> cases v <;> cases u <;> rfl
          · cases w <;> cases n0 <;> cases m2 <;> cases v <;> cases i1 <;> cases i2 <;> rfl
        · cases w <;> cases n0 <;> cases m1 <;> cases m2 <;> rfl
theorem wf_of {a : VA} {ks : List RT} (h : Wf tT (Rose.mk a ks)) : (a.2.2.1.size ≤ 9223372036854775807 ∧ a.2.2.2.1.size ≤ 9223372036854775807 ∧ a.2.2.2.2.2.2.size ≤ 9223372036854775807) ∧ ks.length ≤ 9223372036854775807 ∧ ∀ r ∈ ks, Wf tT r := by
  obtain ⟨h1, h2⟩ := Wf.rose_iff.1 h
  exact ⟨⟨h1.2.2.1, h1.2.2.2.1, h1.2.2.2.2.2.2⟩, h2⟩
theorem strTs_all : ∀ {l : List RT}, (∀ r ∈ l, Sp.strT r = true) → Sp.strTs l = true
  | [], _ => by rw [Sp.strTs]
  | r :: l, h => by rw [Sp.strTs, h r (List.mem_cons_self), strTs_all fun s hs => h s (List.mem_cons_of_mem _ hs)]; rfl
theorem strT_of : ∀ r : RT, Wf tT r → Sp.strT r = true :=
  Rose.ind fun a ks ih h => by
    obtain ⟨⟨h1, h2, h3⟩, h4, h5⟩ := wf_of h
    rw [Sp.strT, strTs_all fun r hr => ih r hr (h5 r hr)]
    unfold Sp.s63
    rw [Nat.ble_eq_true_of_le h1, Nat.ble_eq_true_of_le h2]
    rfl
theorem cntTs_eq2 : ∀ ks : List RT, Sp.cntTs ks = ks.length + Sp.wtW (fun r : RT => Sp.cntTs r.kids) ks
  | [] => by rw [Sp.cntTs]; rfl
  | r :: l => by
    have := cnt_kids r
    rw [Sp.cntTs, cntTs_eq2 l, List.length_cons, Sp.wtW]
    omega
theorem szTf_le {a : VA} {g : Int → Int} {n : Nat} (h1 : a.2.2.1.size ≤ 9223372036854775807) (h2 : a.2.2.2.1.size ≤ 9223372036854775807) (h3 : a.2.2.2.2.2.2.size ≤ 9223372036854775807) (hg : ∀ l, 0 ≤ l → l ≤ 1048576 → 0 ≤ g l → g l + (n : Int) ≤ l) (l : Int) (h0 : 0 ≤ l) (hl : l ≤ 1048576) (h : 0 ≤ Sp.szTf a g l) : Sp.szTf a g l + (n : Int) ≤ l := by
  unfold Sp.szTf at h ⊢
  rw [wrap64 (n := l - (a.2.2.1.size : Int)) (by omega) (by omega)] at h ⊢
  by_cases c1 : l - (a.2.2.1.size : Int) < 0
  · rw [decide_eq_true c1] at h; exact absurd h (show ¬ (0 : Int) ≤ -1 by decide)
  rw [decide_eq_false c1, cond_false] at h ⊢
  rw [wrap64 (n := l - (a.2.2.1.size : Int) - (a.2.2.2.1.size : Int)) (by omega) (by omega)] at h ⊢
  by_cases c2 : l - (a.2.2.1.size : Int) - (a.2.2.2.1.size : Int) < 0
  · rw [decide_eq_true c2] at h; exact absurd h (show ¬ (0 : Int) ≤ -1 by decide)
  rw [decide_eq_false c2, cond_false] at h ⊢
  have hv := szV_le (x := a.2.2.2.2) h3 (l - (a.2.2.1.size : Int) - (a.2.2.2.1.size : Int)) (by omega) (by omega)
  revert h hv
  generalize Sp.szV a.2.2.2.2 (l - (a.2.2.1.size : Int) - (a.2.2.2.1.size : Int)) = v
  intro h hv
  by_cases c3 : v < 0
  · rw [decide_eq_true c3] at h; exact absurd h (show ¬ (0 : Int) ≤ -1 by decide)
  rw [decide_eq_false c3, cond_false] at h ⊢
  by_cases c4 : g v < 0
  · rw [decide_eq_true c4] at h; exact absurd h (show ¬ (0 : Int) ≤ -1 by decide)
  rw [decide_eq_false c4, cond_false] at h ⊢
  have := hg v (by omega) (by omega) h
  omega
theorem szT_wt : ∀ r : RT, Wf tT r → ∀ l, 0 ≤ l → l ≤ 1048576 → 0 ≤ Sp.szT r l → Sp.szT r l + (Sp.cntTs r.kids : Int) ≤ l :=
  Rose.ind fun a ks ih h l h0 hl hz => by
    obtain ⟨⟨h1, h2, h3⟩, h4, h5⟩ := wf_of h
    rw [szT_mk] at hz ⊢
    refine szTf_le h1 h2 h3 (fun l h0 hl hz => ?_) l h0 hl hz
    have := szE_wt (f := Sp.szT) (c := fun r => Sp.cntTs r.kids) (xs := ks) h4 (fun x hx l a b c => ih x hx (h5 x hx) l a b c) h0 hl hz
    show _ + ((Sp.cntTs ks : Nat) : Int) ≤ l
    rw [cntTs_eq2 ks, Int.natCast_add]
    omega
theorem fitTs_list : ∀ {l : List RT}, (∀ r ∈ l, Sp.cntT r ≤ 1000000000000 → Sp.fitT r = true) → Sp.cntTs l ≤ 1000000000000 → Sp.fitTs l = true
  | [], _, _ => by rw [Sp.fitTs]
  | r :: l, h, hc => by
    have hl := cnt_len (r :: l)
    rw [Sp.cntTs] at hc hl
    rw [Sp.fitTs, Nat.ble_eq_true_of_le (by omega), h r (List.mem_cons_self) (by omega), fitTs_list (fun s hs => h s (List.mem_cons_of_mem _ hs)) (by omega)]
    rfl
theorem fitT_cnt : ∀ r : RT, Sp.cntT r ≤ 1000000000000 → Sp.fitT r = true :=
  Rose.ind fun a ks ih h => by
    rw [Sp.fitT]
    have := cnt_kids (Rose.mk a ks)
    have e : Sp.cntTs (Rose.mk a ks).kids = Sp.cntTs ks := rfl
    exact fitTs_list ih (by omega)
theorem fitTs_cnt {l : List RT} (h : Sp.cntTs l ≤ 1000000000000) : Sp.fitTs l = true := fitTs_list (fun r _ => fitT_cnt r) h
theorem wTs_list : ∀ {l : List RT}, (∀ r ∈ l, Sp.wT r = 7 * Sp.cntT r) → Sp.wTs l = 7 * Sp.cntTs l
  | [], _ => by rw [Sp.wTs, Sp.cntTs]
  | r :: l, h => by rw [Sp.wTs, Sp.cntTs, h r (List.mem_cons_self), wTs_list fun s hs => h s (List.mem_cons_of_mem _ hs)]; omega
theorem wT_cnt : ∀ r : RT, Sp.wT r = 7 * Sp.cntT r :=
  Rose.ind fun a ks ih => by
    have := cnt_kids (Rose.mk a ks)
    have e : Sp.cntTs (Rose.mk a ks).kids = Sp.cntTs ks := rfl
    rw [Sp.wT, wTs_list ih]
    omega
theorem wTs_cnt (l : List RT) : Sp.wTs l = 7 * Sp.cntTs l := wTs_list fun r _ => wT_cnt r
theorem smallTs_mk {l : List RT} (h : Sp.cntTs l ≤ 2000000) : Sp.smallTs l 1 = true := by
  refine smallU_mk (by omega) ?_
  rw [← wTs_eq, wTs_cnt, show Int.toNat 1 = 1 from rfl]
  omega
theorem eqTs_list : ∀ {l : List RT}, (∀ r ∈ l, Sp.eqT r r = true) → Sp.eqTs l l = true
  | [], _ => by rw [Sp.eqTs]
  | r :: l, h => by rw [Sp.eqTs, h r (List.mem_cons_self), eqTs_list fun s hs => h s (List.mem_cons_of_mem _ hs)]; rfl
theorem eqA_self (a : VA) : Sp.eqA a a = true := by
  have e : Sp.eqVt a.2.2.2.2 a.2.2.2.2 = true := by unfold Sp.eqVt Sp.f86; simp
  unfold Sp.eqA
  rw [e]
  simp
theorem eqT_self : ∀ r : RT, Sp.eqT r r = true :=
  Rose.ind fun a ks ih => by rw [Sp.eqT, eqA_self, eqTs_list ih]; rfl
def Sp.leftP (dp : Bool) (c : Nat) (l v : Int) : Prop := (dp = false ∧ (c : Int) ≤ l → v = l - (c : Int)) ∧ (¬ (dp = false ∧ (c : Int) ≤ l) → v < 0)
theorem left_list : ∀ {ks : List RT} {d : Int}, (∀ r ∈ ks, ∀ l, 0 ≤ l → l ≤ 1000 → Sp.leftP (Sp.deepT r (Sp.predL (21 - d))) (Sp.cntT r) l (Sp.leftT r l (Sp.succL d))) → ∀ l, -1 ≤ l → l ≤ 1000 → Sp.leftP (Sp.deepTs ks (21 - d)) (Sp.cntTs ks) l (Sp.leftTs ks l d)
  | [], d, _, l, h0, h1 => by
    rw [Sp.deepTs, Sp.cntTs, Sp.leftTs]
    exact ⟨fun _ => by omega, fun h => by
      have : ¬ ((0 : Nat) : Int) ≤ l := fun hh => h ⟨rfl, hh⟩
      omega⟩
  | r :: ks, d, h, l, h0, h1 => by
    rw [Sp.deepTs, Sp.cntTs, Sp.leftTs]
    by_cases hc : l ≥ 0
    · rw [decide_eq_true hc, cond_true]
      obtain ⟨p1, p2⟩ := h r (List.mem_cons_self) l hc h1
      by_cases hq : Sp.deepT r (Sp.predL (21 - d)) = false ∧ (Sp.cntT r : Int) ≤ l
      · obtain ⟨q1, q2⟩ := left_list (fun s hs => h s (List.mem_cons_of_mem _ hs)) (l - (Sp.cntT r : Int)) (by omega) (by omega)
        rw [p1 hq, hq.1, cond_false]
        unfold Sp.leftP
        rw [Int.natCast_add]
        refine ⟨fun ⟨a, b⟩ => ?_, fun hn => q2 fun ⟨a, b⟩ => hn ⟨a, by omega⟩⟩
        have := q1 ⟨a, by omega⟩
        omega
      · have hv := p2 hq
        have e : Sp.leftTs ks (Sp.leftT r l (Sp.succL d)) d = Sp.leftT r l (Sp.succL d) := by
          cases ks with
          | nil => rw [Sp.leftTs]
          | cons s ks => rw [Sp.leftTs, decide_eq_false (by omega)]; rfl
        rw [e]
        refine ⟨fun ⟨a, b⟩ => ?_, fun _ => hv⟩
        exfalso
        rw [Int.natCast_add] at b
        refine hq ⟨?_, by omega⟩
        cases hd : Sp.deepT r (Sp.predL (21 - d)) with
        | false => rfl
        | true => rw [hd, cond_true] at a; cases a
    · rw [decide_eq_false hc, cond_false]
      unfold Sp.leftP
      rw [Int.natCast_add]
      exact ⟨fun ⟨a, b⟩ => by omega, fun _ => by omega⟩
theorem left_of : ∀ (r : RT) (l d : Int), 0 ≤ l → l ≤ 1000 → 1 ≤ d → d ≤ 21 → Sp.leftP (Sp.deepT r (21 - d)) (Sp.cntT r) l (Sp.leftT r l d) :=
  Rose.ind fun a ks ih l d h0 h1 d0 d1 => by
    have hk := cnt_kids (Rose.mk a ks)
    have e : Sp.cntTs (Rose.mk a ks).kids = Sp.cntTs ks := rfl
    rw [Sp.deepT, Sp.leftT, ← hk, e]
    by_cases hd : d = 21
    · subst hd
      exact ⟨fun h => (by cases h.1), fun _ => show (-1 : Int) < 0 by omega⟩
    · rw [decide_eq_false (show ¬ d > 20 by omega), cond_false, show ((21 - d) == 0) = false from beq_false_of_ne (by omega), cond_false]
      have e1 : Sp.predL l = l - 1 := wrap64 (by omega) (by omega)
      have e2 : Sp.succL d = d + 1 := wrap64 (by omega) (by omega)
      have e3 : Sp.predL (21 - d) = 21 - (d + 1) := (wrap64 (by omega) (by omega)).trans (by omega)
      obtain ⟨q1, q2⟩ := left_list (ks := ks) (d := d) (fun r hr l a b => by rw [e2, e3]; exact ih r hr l (d + 1) a b (by omega) (by omega)) (l - 1) (by omega) (by omega)
      rw [e1]
      unfold Sp.leftP
      rw [Int.natCast_add]
      refine ⟨fun ⟨a, b⟩ => ?_, fun hn => q2 fun ⟨a, b⟩ => hn ⟨a, by omega⟩⟩
      have := q1 ⟨a, by omega⟩
      omega
theorem left_ok (r : RT) : decide (Sp.leftT r 120 1 ≥ 0) = bif !Sp.deepT r 20 then decide ((((1 : Nat) + Sp.cntTs r.kids : Nat) : Int) ≤ 120) else false := by
  obtain ⟨p1, p2⟩ := left_of r 120 1 (by omega) (by omega) (by omega) (by omega)
  have p1 : Sp.deepT r 20 = false ∧ (Sp.cntT r : Int) ≤ 120 → Sp.leftT r 120 1 = 120 - (Sp.cntT r : Int) := p1
  have p2 : ¬ (Sp.deepT r 20 = false ∧ (Sp.cntT r : Int) ≤ 120) → Sp.leftT r 120 1 < 0 := p2
  rw [cnt_kids]
  by_cases h : Sp.deepT r 20 = false ∧ (Sp.cntT r : Int) ≤ 120
  · rw [h.1, decide_eq_true h.2, p1 h]
    exact decide_eq_true (by omega)
  · rw [decide_eq_false (by have := p2 h; omega)]
    cases hd : Sp.deepT r 20 with
    | true => rfl
    | false => exact (decide_eq_false fun hc => h ⟨hd, hc⟩).symm
end Go.Proofs.GR.T

set_option maxRecDepth 1000000
set_option maxHeartbeats 100000000
namespace Go.Proofs.GR.T
open Go Go.Proofs Go.Proofs.GR
theorem maybe_eq (t : ByteArray) : (Sp.f1030 t).1 = bif Sp.mtS t then true else Sp.isFreeS t := by
  unfold Sp.f1030 Sp.mtS
  rw [free_eq]
  cases t.toList == (ByteArray.mk #[]).toList <;> rfl
theorem grpB_S (r : RT) : Sp.grpB r = !Sp.grpS r := by
  rw [grpB_is, xOK_eq]
  unfold Sp.grpS
  cases r.a.1 != (14 : Int) <;> rfl
theorem grps_eq (ks : List RT) : (!(Sp.f1026a ks).1) = Sp.allW Sp.grpS ks := by
  have e : (Sp.f1026a ks).1 = Sp.anyW Sp.grpB ks := idx_any Sp.grpB ks 0 (Int.le_refl 0)
  rw [e, show Sp.grpB = fun r => !Sp.grpS r from funext grpB_S, anyW_all, Bool.not_not]
  congr 1
  exact funext fun r => Bool.not_not _
theorem xprs_eq (ks : List RT) : (!(Sp.f1026b ks).1) = Sp.allW Sp.litS ks := by
  have e : (Sp.f1026b ks).1 = Sp.anyW Sp.xprB ks := idx_any Sp.xprB ks 0 (Int.le_refl 0)
  have e2 : Sp.xprB = fun r => !Sp.litS r := funext fun r => by rw [xprB_is, xOK_eq]; rfl
  rw [e, e2, anyW_all, Bool.not_not]
  congr 1
  exact funext fun r => Bool.not_not _
theorem len_pos {α : Type} (l : List α) : decide ((l.length : Int) > 0) = !((l.length : Int) == 0) := by
  by_cases h : l.length = 0
  · rw [h]; rfl
  · rw [decide_eq_true (by omega), show ((l.length : Int) == 0) = false from decide_eq_false (show ¬(l.length : Int) = 0 by omega)]; rfl
theorem partB_eq (r : RT) : Sp.partB r = Sp.partR r := by
  have e : Sp.mkT ((Sp.k0 r.kids).a.1, (Sp.k0 r.kids).a.2.1, (Sp.k0 r.kids).a.2.2.1, (Sp.k0 r.kids).a.2.2.2.1, (Sp.k0 r.kids).a.2.2.2.2.1, (Sp.k0 r.kids).a.2.2.2.2.2.1, (Sp.k0 r.kids).a.2.2.2.2.2.2, (Sp.k0 r.kids).kids) = Sp.k0 r.kids := mkT_un _
  have e1 : ∀ g, Sp.xOK (Sp.mkT ((Sp.k0 r.kids).a.1, (Sp.k0 r.kids).a.2.1, (Sp.k0 r.kids).a.2.2.1, (Sp.k0 r.kids).a.2.2.2.1, (Sp.k0 r.kids).a.2.2.2.2.1, (Sp.k0 r.kids).a.2.2.2.2.2.1, (Sp.k0 r.kids).a.2.2.2.2.2.2, (Sp.k0 r.kids).kids)) g = Sp.lT (Sp.k0 r.kids) g := fun g => by rw [e, xOK_eq]
  have hd : ∀ a b : Int, (Sp.f70 r.a.2.1 a b).1 = (Sp.f79 r.a.2.1 a b).1 := fun a b => rfl
  have hm : decide ((-1 : Int) < 0) = true := rfl
  have h0 : decide ((0 : Int) < 0) = false := rfl
  have h1 : decide ((1 : Int) < 0) = false := rfl
  unfold Sp.k0 at e1
  unfold Sp.partB Sp.partR Sp.f1159 Sp.partX Sp.k0
  rw [has_is, has_is, has_is, has_is, has_is, has_is, maybe_eq, maybe_eq, free_eq, e1, e1, hd, hd, len_pos]
  unfold Sp.hasX
  rw [hm, h0, h1]
  have hg : ((!(Sp.f1026a r.kids).1, ()) : Bool × Unit) = (Sp.allW Sp.grpS r.kids, ()) := by rw [grps_eq]
  rw [hg]
  generalize Sp.noVal r.a.2.2.2.2.1 r.a.2.2.2.2.2.1 r.a.2.2.2.2.2.2 = c0
  generalize (r.a.2.1 == (0 : Int)) = c1
  generalize Sp.mtS r.a.2.2.1 = c2
  generalize Sp.mtS r.a.2.2.2.1 = c3
  generalize Sp.isFreeS r.a.2.2.1 = f2
  generalize Sp.isFreeS r.a.2.2.2.1 = f3
  generalize ((r.kids.length : Int) == (1 : Int)) = l1
  generalize ((r.kids.length : Int) == (0 : Int)) = l0
  generalize (Sp.f79 r.a.2.1 (0 : Int) (1 : Int)).1 = w1
  generalize (Sp.f79 r.a.2.1 (0 : Int) (999999999999999999 : Int)).1 = w2
  generalize Sp.allW Sp.grpS r.kids = gg
  generalize Sp.lT (r.kids.getD (0 : Nat) ZR) true = t1
  generalize Sp.lT (r.kids.getD (0 : Nat) ZR) false = t2
  cases r.a.1 == (5 : Int) with
  | true => cases c0 <;> cases c1 <;> cases c3 <;> cases c2 <;> cases f2 <;> cases l1 <;> rfl
  | false =>
  cases r.a.1 == (6 : Int) with
  | true => cases c0 <;> cases c1 <;> cases f2 <;> cases c3 <;> cases f3 <;> cases l0 <;> rfl
  | false =>
  cases r.a.1 == (7 : Int) with
  | true => cases c0 <;> cases c1 <;> cases c2 <;> cases c3 <;> cases l1 <;> rfl
  | false =>
  cases r.a.1 == (8 : Int) with
  | true => cases c0 <;> cases c1 <;> cases c2 <;> cases c3 <;> cases l1 <;> rfl
  | false =>
  cases r.a.1 == (9 : Int) with
  | true => cases c0 <;> cases c1 <;> cases c2 <;> cases c3 <;> cases l0 <;> rfl
  | false =>
  cases r.a.1 == (10 : Int) with
  | true => cases c0 <;> cases w1 <;> cases c2 <;> cases c3 <;> cases l1 <;> rfl
  | false =>
  cases r.a.1 == (11 : Int) with
  | true => cases c0 <;> cases w2 <;> cases c2 <;> cases c3 <;> cases l0 <;> rfl
  | false =>
  cases r.a.1 == (12 : Int) with
  | true => cases c0 <;> cases c1 <;> cases c3 <;> cases f2 <;> cases l1 <;> rfl
  | false => cases c0 <;> rfl
theorem partR_kind {r : RT} (h : Sp.partR r = true) : 5 ≤ r.a.1 ∧ r.a.1 ≤ 12 := by
  unfold Sp.partR Sp.partX at h
  have k : r.a.1 = 5 ∨ r.a.1 = 6 ∨ r.a.1 = 7 ∨ r.a.1 = 8 ∨ r.a.1 = 9 ∨ r.a.1 = 10 ∨ r.a.1 = 11 ∨ r.a.1 = 12 ∨ (r.a.1 ≠ 5 ∧ r.a.1 ≠ 6 ∧ r.a.1 ≠ 7 ∧ r.a.1 ≠ 8 ∧ r.a.1 ≠ 9 ∧ r.a.1 ≠ 10 ∧ r.a.1 ≠ 11 ∧ r.a.1 ≠ 12) := by omega
  rcases k with k | k | k | k | k | k | k | k | ⟨a1, a2, a3, a4, a5, a6, a7, a8⟩
  · omega
  · omega
  · omega
  · omega
  · omega
  · omega
  · omega
  · omega
  · have n : ∀ j : Int, r.a.1 ≠ j → (r.a.1 == j) = false := fun j hj => decide_eq_false hj
    rw [n 5 a1, n 6 a2, n 7 a3, n 8 a4, n 9 a5, n 10 a6, n 11 a7, n 12 a8] at h
    revert h
    cases Sp.noVal r.a.2.2.2.2.1 r.a.2.2.2.2.2.1 r.a.2.2.2.2.2.2 <;> intro h <;> cases h
theorem kdB_eq (r : RT) : Sp.kdB r = Sp.partR r := by
  unfold Sp.kdB
  rw [partB_eq]
  cases hp : Sp.partR r with
  | false => cases (Sp.f70 r.a.1 (5 : Int) (12 : Int)).1 <;> rfl
  | true =>
    obtain ⟨h1, h2⟩ := partR_kind hp
    have e : (Sp.f70 r.a.1 (5 : Int) (12 : Int)).1 = true := by
      show (bif decide (r.a.1 ≥ 5) then (decide (r.a.1 ≤ 12), ()) else (false, ())).1 = true
      rw [decide_eq_true (show r.a.1 ≥ 5 from h1), decide_eq_true h2]; rfl
    rw [e]; rfl
def Sp.lets (ks : List RT) : List Int := ks.map fun r => Sp.letter r.a.1
theorem kds_eq : ∀ (ks : List RT) (acc : List Int), Sp.kds ks acc = bif Sp.allW Sp.partR ks then bytesStr (acc ++ Sp.lets ks) else ByteArray.mk #[63]
  | [], acc => by rw [Sp.kds, Sp.allW, cond_true]; show _ = bytesStr (acc ++ []); rw [List.append_nil]
  | r :: l, acc => by
    rw [Sp.kds, Sp.allW, kdB_eq, kds_eq l]
    cases Sp.partR r with
    | false => rfl
    | true =>
      show (bif Sp.allW Sp.partR l then bytesStr (acc ++ [Sp.letter r.a.1] ++ Sp.lets l) else _) = bif Sp.allW Sp.partR l then bytesStr (acc ++ (Sp.letter r.a.1 :: Sp.lets l)) else _
      rw [List.append_assoc]; rfl
theorem letter_at {k : Int} (h1 : 5 ≤ k) (h2 : k ≤ 12) : Sp.letter k = [(105 : Int), 116, 111, 119, 103, 114, 108, 115].getD (k - 5).toNat 0 := by
  unfold Sp.letter
  rw [wrap64 (by omega) (by omega)]
  have e : strBytes (ByteArray.mk #[105, 116, 111, 119, 103, 114, 108, 115]) = [(105 : Int), 116, 111, 119, 103, 114, 108, 115] := by kernel_rfl
  rw [e]
theorem letter_byte {k : Int} (h1 : 5 ≤ k) (h2 : k ≤ 12) : 0 ≤ Sp.letter k ∧ Sp.letter k < 256 := by
  rw [letter_at h1 h2]
  have : (k - 5).toNat < 8 := by omega
  generalize (k - 5).toNat = n at this
  match n, this with
  | 0, _ | 1, _ | 2, _ | 3, _ | 4, _ | 5, _ | 6, _ | 7, _ => exact ⟨by decide, by decide⟩
theorem letter_inj {j k : Int} (h1 : 5 ≤ j) (h2 : j ≤ 12) (h3 : 5 ≤ k) (h4 : k ≤ 12) : (Sp.letter j == Sp.letter k) = (j == k) := by
  rw [letter_at h1 h2, letter_at h3 h4]
  have hj : (j - 5).toNat < 8 := by omega
  have hk : (k - 5).toNat < 8 := by omega
  have e : (j == k) = ((j - 5).toNat == (k - 5).toNat) := by
    rw [Bool.eq_iff_iff, beq_iff_eq, beq_iff_eq]; omega
  rw [e]
  generalize (j - 5).toNat = n at hj
  generalize (k - 5).toNat = m at hk
  revert n m
  decide
end Go.Proofs.GR.T

set_option maxRecDepth 1000000
set_option maxHeartbeats 100000000
namespace Go.Proofs.GR.T
open Go Go.Proofs Go.Proofs.GR
def Sp.cutK (k : Int) : Nat → List RT → List RT
  | 0, l => l
  | _ + 1, [] => []
  | m + 1, r :: l => bif r.a.1 == k then Sp.cutK k m l else r :: l
def Sp.cutC (k : Int) : Nat → List RT → Nat
  | 0, _ => 0
  | _ + 1, [] => 0
  | m + 1, r :: l => bif r.a.1 == k then Sp.cutC k m l + 1 else 0
def partsR (l : List RT) : Prop := ∀ r ∈ l, Sp.partR r = true
theorem lets_bytes {l : List RT} (h : partsR l) : Sp.isBytes (Sp.lets l) = true := isBytes_of fun x hx => by
  obtain ⟨r, hr, rfl⟩ := List.mem_map.1 hx
  obtain ⟨h1, h2⟩ := partR_kind (h r hr)
  exact letter_byte h1 h2
theorem one_byte {b : Int} (hb : 0 ≤ b ∧ b < 256) : Sp.isBytes [b] = true := isBytes_of fun x hx => by
  rw [List.mem_singleton] at hx; rw [hx]; exact hb
theorem pre_nil (b : Int) : (Sp.f1146 (bytesStr []) (bytesStr [b])).1 = false := by
  show (bif decide (((bytesStr []).size : Int) ≥ ((bytesStr [b]).size : Int)) then (((bytesStr []).extract 0 (bytesStr [b]).size).toList == (bytesStr [b]).toList, ()) else (false, ())).1 = _
  rw [bytesStr_size, bytesStr_size]; rfl
theorem pre_cons {x b : Int} {r : List Int} (hx : Sp.isBytes (x :: r) = true) (hb : 0 ≤ b ∧ b < 256) : (Sp.f1146 (bytesStr (x :: r)) (bytesStr [b])).1 = (x == b) := by
  show (bif decide (((bytesStr (x :: r)).size : Int) ≥ ((bytesStr [b]).size : Int)) then (((bytesStr (x :: r)).extract 0 (bytesStr [b]).size).toList == (bytesStr [b]).toList, ()) else (false, ())).1 = _
  rw [bytesStr_size, bytesStr_size, extract_eq, strBytes_bytesStr hx, List.length_cons, List.length_singleton, decide_eq_true (show ((r.length + 1 : Nat) : Int) ≥ ((1 : Nat) : Int) by omega)]
  show ((bytesStr [x]).toList == (bytesStr [b]).toList) = _
  rw [beq_bytes (one_byte (isBytes_cons.1 hx).1) (one_byte hb)]
  unfold Sp.eqL
  rw [Bool.eq_iff_iff, beq_iff_eq]
  simp
theorem tail_cons {x : Int} {r : List Int} (hx : Sp.isBytes (x :: r) = true) : (bytesStr (x :: r)).extract 1 (bytesStr (x :: r)).size = bytesStr r := by
  rw [extract_eq, strBytes_bytesStr hx, bytesStr_size, List.length_cons]
  show bytesStr (List.take (r.length + 1 - 1) r) = _
  rw [Nat.add_sub_cancel, List.take_length]
theorem cut_eq {k : Int} (h1 : 5 ≤ k) (h2 : k ≤ 12) : ∀ (m : Nat) (l : List RT), partsR l → Sp.cutB (bytesStr [Sp.letter k]) m (bytesStr (Sp.lets l)) = bytesStr (Sp.lets (Sp.cutK k m l)) ∧ Sp.cutN (bytesStr [Sp.letter k]) m (bytesStr (Sp.lets l)) = Sp.cutC k m l
  | 0, l, _ => ⟨rfl, rfl⟩
  | m + 1, [], _ => by
    rw [Sp.cutB, Sp.cutN, Sp.cutK, Sp.cutC, show Sp.lets [] = [] from rfl, pre_nil]
    exact ⟨rfl, rfl⟩
  | m + 1, r :: l, h => by
    have hb := lets_bytes h
    have hl : partsR l := fun x hx => h x (List.mem_cons_of_mem _ hx)
    obtain ⟨k1, k2⟩ := partR_kind (h r List.mem_cons_self)
    obtain ⟨i1, i2⟩ := cut_eq h1 h2 m l hl
    have e : Sp.lets (r :: l) = Sp.letter r.a.1 :: Sp.lets l := rfl
    rw [e] at hb
    rw [Sp.cutB, Sp.cutN, Sp.cutK, Sp.cutC, e, pre_cons hb (letter_byte h1 h2), tail_cons hb, i1, i2, letter_inj k1 k2 h1 h2]
    cases r.a.1 == k <;> exact ⟨rfl, rfl⟩
theorem cutK_split (k : Int) : ∀ (m : Nat) (l : List RT), ∃ p : List RT, l = p ++ Sp.cutK k m l ∧ (∀ r ∈ p, r.a.1 = k) ∧ p.length = Sp.cutC k m l ∧ p.length ≤ m
  | 0, l => ⟨[], rfl, (fun r h => by cases h), rfl, Nat.le_refl _⟩
  | m + 1, [] => ⟨[], rfl, (fun r h => by cases h), rfl, Nat.zero_le _⟩
  | m + 1, r :: l => by
    rw [Sp.cutK, Sp.cutC]
    cases hk : r.a.1 == k with
    | false => exact ⟨[], rfl, (fun r h => by cases h), rfl, Nat.zero_le _⟩
    | true =>
      obtain ⟨p, h1, h2, h3, h4⟩ := cutK_split k m l
      refine ⟨r :: p, ?_, fun x hx => ?_, ?_, ?_⟩
      · show r :: l = r :: (p ++ Sp.cutK k m l)
        rw [← h1]
      · rcases List.mem_cons.1 hx with h | h
        · rw [h]; exact eq_of_beq hk
        · exact h2 x h
      · rw [List.length_cons, h3]; rfl
      · rw [List.length_cons]; omega
theorem cutK_parts {k : Int} {m : Nat} {l : List RT} (h : partsR l) : partsR (Sp.cutK k m l) := by
  obtain ⟨p, h1, _⟩ := cutK_split k m l
  intro r hr
  exact h r (by rw [h1]; exact List.mem_append_right _ hr)
theorem ups_mono : ∀ {l : List RT} {p q : Int}, p ≤ q → Sp.ups l q = true → Sp.ups l p = true
  | [], _, _, _, _ => rfl
  | r :: l, p, q, hpq, h => by
    rw [Sp.ups] at h ⊢
    cases hb : decide (q ≤ r.a.1) && decide (r.a.1 ≤ (11 : Int)) with
    | false => rw [hb] at h; cases h
    | true =>
      rw [hb] at h
      rw [Bool.and_eq_true_iff, decide_eq_true_iff, decide_eq_true_iff] at hb
      rw [show (decide (p ≤ r.a.1) && decide (r.a.1 ≤ (11 : Int))) = true by rw [Bool.and_eq_true_iff, decide_eq_true_iff, decide_eq_true_iff]; omega]
      exact h
theorem ups_cons {r : RT} {l : List RT} {p : Int} : Sp.ups (r :: l) p = true ↔ (p ≤ r.a.1 ∧ r.a.1 ≤ 11) ∧ Sp.partR r = true ∧ Sp.ups l r.a.1 = true := by
  rw [Sp.ups]
  cases hb : decide (p ≤ r.a.1) && decide (r.a.1 ≤ (11 : Int)) with
  | false =>
    refine ⟨(fun h => by cases h), fun h => ?_⟩
    have : (decide (p ≤ r.a.1) && decide (r.a.1 ≤ (11 : Int))) = true := by rw [Bool.and_eq_true_iff, decide_eq_true_iff, decide_eq_true_iff]; exact h.1
    rw [hb] at this; cases this
  | true =>
    rw [Bool.and_eq_true_iff, decide_eq_true_iff, decide_eq_true_iff] at hb
    cases hp : Sp.partR r with
    | false => exact ⟨(fun h => by cases h), (fun h => by cases h.2.1)⟩
    | true => exact ⟨fun h => ⟨hb, rfl, h⟩, fun h => h.2.2⟩
theorem ups_parts : ∀ {l : List RT} {p : Int}, Sp.ups l p = true → Sp.allW Sp.partR l = true
  | [], _, _ => rfl
  | r :: l, p, h => by
    obtain ⟨_, h2, h3⟩ := ups_cons.1 h
    rw [Sp.allW, h2]
    exact ups_parts h3
theorem allW_parts : ∀ {l : List RT}, Sp.allW Sp.partR l = true → partsR l
  | [], _ => fun r h => by cases h
  | r :: l, h => by
    rw [Sp.allW] at h
    cases hp : Sp.partR r with
    | false => rw [hp] at h; cases h
    | true =>
      rw [hp] at h
      intro x hx
      rcases List.mem_cons.1 hx with e | e
      · rw [e]; exact hp
      · exact allW_parts h x e
theorem ups_pre {k : Int} (hk : k ≤ 11) {rest : List RT} (hr : Sp.ups rest k = true) : ∀ (pre : List RT) (p : Int), p ≤ k → partsR pre → (∀ r ∈ pre, r.a.1 = k) → Sp.ups (pre ++ rest) p = true
  | [], p, hp, _, _ => ups_mono hp hr
  | r :: pre, p, hp, h1, h2 => by
    have e := h2 r List.mem_cons_self
    refine ups_cons.2 ⟨by omega, h1 r List.mem_cons_self, ?_⟩
    rw [e]
    exact ups_pre hk hr pre k (Int.le_refl k) (fun x hx => h1 x (List.mem_cons_of_mem _ hx)) fun x hx => h2 x (List.mem_cons_of_mem _ hx)
theorem cnt_pre {k : Int} (j : Int) : ∀ pre : List RT, (∀ r ∈ pre, r.a.1 = k) → Sp.cntK j pre = if k = j then pre.length else 0
  | [], _ => by rw [Sp.cntK]; split <;> rfl
  | r :: pre, h => by
    rw [Sp.cntK, cnt_pre j pre fun x hx => h x (List.mem_cons_of_mem _ hx), h r List.mem_cons_self]
    by_cases e : k = j
    · rw [if_pos e, if_pos e, show (k == j) = true from decide_eq_true e, cond_true, List.length_cons]; omega
    · rw [if_neg e, if_neg e, show (k == j) = false from decide_eq_false e]; rfl
theorem ups_cnt : ∀ {l : List RT} {p j : Int}, Sp.ups l p = true → j < p → Sp.cntK j l = 0
  | [], _, _, _, _ => rfl
  | r :: l, p, j, h, hj => by
    obtain ⟨h1, _, h3⟩ := ups_cons.1 h
    rw [Sp.cntK, ups_cnt h3 (show j < r.a.1 by omega), show (r.a.1 == j) = false from decide_eq_false (show ¬r.a.1 = j by omega)]
    rfl
theorem ups_more : ∀ {l : List RT} {k : Int}, Sp.ups l k = true → Sp.cntK k l = 0 → Sp.ups l (k + 1) = true
  | [], _, _, _ => rfl
  | r :: l, k, h, h0 => by
    obtain ⟨h1, h2, h3⟩ := ups_cons.1 h
    rw [Sp.cntK] at h0
    cases e : r.a.1 == k with
    | true => rw [e, cond_true] at h0; omega
    | false =>
      have : ¬r.a.1 = k := of_decide_eq_false e
      exact ups_cons.2 ⟨by omega, h2, h3⟩
theorem cut_ups {k : Int} : ∀ (m : Nat) (l : List RT), Sp.ups l k = true → Sp.cntK k l ≤ m → Sp.ups (Sp.cutK k m l) (k + 1) = true ∧ Sp.cutC k m l = Sp.cntK k l ∧ ∀ j, j ≠ k → Sp.cntK j (Sp.cutK k m l) = Sp.cntK j l
  | 0, l, h, hm => ⟨ups_more (l := l) h (show Sp.cntK k l = 0 by omega), (show 0 = Sp.cntK k l by omega), fun _ _ => rfl⟩
  | m + 1, [], _, _ => ⟨rfl, rfl, fun _ _ => rfl⟩
  | m + 1, r :: l, h, hm => by
    obtain ⟨h1, h2, h3⟩ := ups_cons.1 h
    rw [Sp.cutK, Sp.cutC]
    cases e : r.a.1 == k with
    | true =>
      have e2 : r.a.1 = k := eq_of_beq e
      rw [Sp.cntK, e, cond_true] at hm
      rw [e2] at h3
      obtain ⟨i1, i2, i3⟩ := cut_ups m l h3 (by omega)
      refine ⟨i1, ?_, fun j hj => ?_⟩
      · rw [cond_true, i2, Sp.cntK, e, cond_true]; omega
      · rw [cond_true, i3 j hj, Sp.cntK, e2, show (k == j) = false from decide_eq_false (fun h => hj h.symm), cond_false, Nat.zero_add]
    | false =>
      have e2 : ¬r.a.1 = k := of_decide_eq_false e
      refine ⟨ups_cons.2 ⟨by omega, h2, h3⟩, ?_, fun j hj => rfl⟩
      rw [cond_false, Sp.cntK, e, cond_false, ups_cnt h3 (by omega)]
theorem ups_12 : ∀ {l : List RT}, Sp.ups l 12 = true → l = []
  | [], _ => rfl
  | r :: l, h => by
    obtain ⟨h1, _⟩ := ups_cons.1 h
    omega
def qcut (ks : List RT) : List RT := Sp.cutK 11 1 (Sp.cutK 10 120 (Sp.cutK 9 1 (Sp.cutK 8 1 (Sp.cutK 7 1 (Sp.cutK 6 2 (Sp.cutK 5 120 ks))))))
theorem fin7_iff (ks : List RT) (hl : ks.length ≤ 1000) : Sp.fin7 ks = true ↔ 0 < Sp.cntK 5 ks ∧ 1 ≤ Sp.cntK 6 ks ∧ Sp.cntK 6 ks ≤ 2 ∧ Sp.cntK 7 ks + 1 = Sp.cntK 6 ks ∧ Sp.cntK 8 ks ≤ 1 ∧ Sp.cntK 9 ks ≤ 1 ∧ Sp.cntK 11 ks ≤ 1 := by
  have b5 := cntK_le 5 ks
  have b6 := cntK_le 6 ks
  have b7 := cntK_le 7 ks
  unfold Sp.fin7
  rw [wrap64 (n := (Sp.cntK 6 ks : Int) - 1) (by omega) (by omega)]
  show (bif decide ((Sp.cntK 5 ks : Int) > 0) then bif (bif decide ((Sp.cntK 6 ks : Int) ≥ 1) then (decide ((Sp.cntK 6 ks : Int) ≤ 2), ()) else (false, ())).1 then bif (Sp.cntK 7 ks : Int) == (Sp.cntK 6 ks : Int) - 1 then bif decide ((Sp.cntK 8 ks : Int) ≤ 1) then bif decide ((Sp.cntK 9 ks : Int) ≤ 1) then decide ((Sp.cntK 11 ks : Int) ≤ 1) else false else false else false else false else false) = true ↔ _
  by_cases c1 : (Sp.cntK 5 ks : Int) > 0
  · rw [decide_eq_true c1, cond_true]
    by_cases c2 : (Sp.cntK 6 ks : Int) ≥ 1
    · rw [decide_eq_true c2, cond_true]
      by_cases c3 : (Sp.cntK 6 ks : Int) ≤ 2
      · rw [decide_eq_true c3]
        by_cases c4 : (Sp.cntK 7 ks : Int) = (Sp.cntK 6 ks : Int) - 1
        · rw [show ((Sp.cntK 7 ks : Int) == (Sp.cntK 6 ks : Int) - 1) = true from decide_eq_true c4, cond_true]
          by_cases c5 : (Sp.cntK 8 ks : Int) ≤ 1
          · rw [decide_eq_true c5, cond_true]
            by_cases c6 : (Sp.cntK 9 ks : Int) ≤ 1
            · rw [decide_eq_true c6]
              show decide _ = true ↔ _
              rw [decide_eq_true_iff]
              omega
            · rw [decide_eq_false c6]; exact ⟨(fun h => by cases h), fun h => by omega⟩
          · rw [decide_eq_false c5]; exact ⟨(fun h => by cases h), fun h => by omega⟩
        · rw [show ((Sp.cntK 7 ks : Int) == (Sp.cntK 6 ks : Int) - 1) = false from decide_eq_false c4]; exact ⟨(fun h => by cases h), fun h => by omega⟩
      · rw [decide_eq_false c3]; exact ⟨(fun h => by cases h), fun h => by omega⟩
    · rw [decide_eq_false c2]; exact ⟨(fun h => by cases h), fun h => by omega⟩
  · rw [decide_eq_false c1]; exact ⟨(fun h => by cases h), fun h => by omega⟩
theorem shape_iff (ks : List RT) (hl : ks.length ≤ 119) (hp : partsR ks) : (qcut ks = [] ∧ 0 < Sp.cutC 5 120 ks ∧ Sp.cutC 6 2 (Sp.cutK 5 120 ks) = Sp.cutC 7 1 (Sp.cutK 6 2 (Sp.cutK 5 120 ks)) + 1) ↔ Sp.shapeB ks = true := by
  have hs : Sp.shapeB ks = true ↔ Sp.ups ks 5 = true ∧ Sp.fin7 ks = true := by
    unfold Sp.shapeB
    cases Sp.ups ks 5 with
    | false => exact ⟨(fun h => by cases h), (fun h => by cases h.1)⟩
    | true => exact ⟨fun h => ⟨rfl, h⟩, fun h => h.2⟩
  rw [hs, fin7_iff ks (by omega)]
  unfold qcut
  constructor
  · rintro ⟨he, hn1, hn2⟩
    obtain ⟨p1, q1, a1, b1, c1⟩ := cutK_split 5 120 ks
    have g1 : partsR (Sp.cutK 5 120 ks) := cutK_parts hp
    generalize Sp.cutK 5 120 ks = l1 at *
    obtain ⟨p2, q2, a2, b2, c2⟩ := cutK_split 6 2 l1
    have g2 : partsR (Sp.cutK 6 2 l1) := cutK_parts g1
    generalize Sp.cutK 6 2 l1 = l2 at *
    obtain ⟨p3, q3, a3, b3, c3⟩ := cutK_split 7 1 l2
    have g3 : partsR (Sp.cutK 7 1 l2) := cutK_parts g2
    generalize Sp.cutK 7 1 l2 = l3 at *
    obtain ⟨p4, q4, a4, b4, c4⟩ := cutK_split 8 1 l3
    have g4 : partsR (Sp.cutK 8 1 l3) := cutK_parts g3
    generalize Sp.cutK 8 1 l3 = l4 at *
    obtain ⟨p5, q5, a5, b5, c5⟩ := cutK_split 9 1 l4
    have g5 : partsR (Sp.cutK 9 1 l4) := cutK_parts g4
    generalize Sp.cutK 9 1 l4 = l5 at *
    obtain ⟨p6, q6, a6, b6, c6⟩ := cutK_split 10 120 l5
    have g6 : partsR (Sp.cutK 10 120 l5) := cutK_parts g5
    generalize Sp.cutK 10 120 l5 = l6 at *
    obtain ⟨p7, q7, a7, b7, c7⟩ := cutK_split 11 1 l6
    rw [he] at q7
    have pl : ∀ {l p r : List RT}, partsR l → l = p ++ r → partsR p := fun h e x hx => h x (by rw [e]; exact List.mem_append_left _ hx)
    have u7 : Sp.ups l6 11 = true := by rw [q7]; exact ups_pre (k := 11) (by omega) (show Sp.ups [] 11 = true from rfl) p7 11 (by omega) (pl g6 q7) a7
    have u6 : Sp.ups l5 10 = true := by rw [q6]; exact ups_pre (k := 10) (by omega) (ups_mono (by omega) u7) p6 10 (by omega) (pl g5 q6) a6
    have u5 : Sp.ups l4 9 = true := by rw [q5]; exact ups_pre (k := 9) (by omega) (ups_mono (by omega) u6) p5 9 (by omega) (pl g4 q5) a5
    have u4 : Sp.ups l3 8 = true := by rw [q4]; exact ups_pre (k := 8) (by omega) (ups_mono (by omega) u5) p4 8 (by omega) (pl g3 q4) a4
    have u3 : Sp.ups l2 7 = true := by rw [q3]; exact ups_pre (k := 7) (by omega) (ups_mono (by omega) u4) p3 7 (by omega) (pl g2 q3) a3
    have u2 : Sp.ups l1 6 = true := by rw [q2]; exact ups_pre (k := 6) (by omega) (ups_mono (by omega) u3) p2 6 (by omega) (pl g1 q2) a2
    have u1 : Sp.ups ks 5 = true := by rw [q1]; exact ups_pre (k := 5) (by omega) (ups_mono (by omega) u2) p1 5 (by omega) (pl hp q1) a1
    have hc : ∀ j : Int, Sp.cntK j ks = (if (5 : Int) = j then p1.length else 0) + ((if (6 : Int) = j then p2.length else 0) + ((if (7 : Int) = j then p3.length else 0) + ((if (8 : Int) = j then p4.length else 0) + ((if (9 : Int) = j then p5.length else 0) + ((if (10 : Int) = j then p6.length else 0) + ((if (11 : Int) = j then p7.length else 0) + 0)))))) := by
      intro j
      rw [q1, cntK_app, cnt_pre j p1 a1, q2, cntK_app, cnt_pre j p2 a2, q3, cntK_app, cnt_pre j p3 a3, q4, cntK_app, cnt_pre j p4 a4, q5, cntK_app, cnt_pre j p5 a5, q6, cntK_app, cnt_pre j p6 a6, q7, cntK_app, cnt_pre j p7 a7]
      rfl
    refine ⟨u1, ?_⟩
    rw [hc 5, hc 6, hc 7, hc 8, hc 9, hc 11]
    simp
    omega
  · rintro ⟨hu, f1, f2, f3, f4, f5, f6, f7⟩
    have z5 := cntK_le 5 ks
    have z10 := cntK_le 10 ks
    obtain ⟨u1, n1, s1⟩ := cut_ups 120 ks hu (by omega)
    have u1 : Sp.ups (Sp.cutK 5 120 ks) 6 = true := u1
    obtain ⟨u2, n2, s2⟩ := cut_ups 2 _ u1 (by rw [s1 6 (by omega)]; omega)
    have u2 : Sp.ups (Sp.cutK 6 2 (Sp.cutK 5 120 ks)) 7 = true := u2
    obtain ⟨u3, n3, s3⟩ := cut_ups 1 _ u2 (by rw [s2 7 (by omega), s1 7 (by omega)]; omega)
    have u3 : Sp.ups (Sp.cutK 7 1 (Sp.cutK 6 2 (Sp.cutK 5 120 ks))) 8 = true := u3
    obtain ⟨u4, n4, s4⟩ := cut_ups 1 _ u3 (by rw [s3 8 (by omega), s2 8 (by omega), s1 8 (by omega)]; omega)
    have u4 : Sp.ups (Sp.cutK 8 1 (Sp.cutK 7 1 (Sp.cutK 6 2 (Sp.cutK 5 120 ks)))) 9 = true := u4
    obtain ⟨u5, n5, s5⟩ := cut_ups 1 _ u4 (by rw [s4 9 (by omega), s3 9 (by omega), s2 9 (by omega), s1 9 (by omega)]; omega)
    have u5 : Sp.ups (Sp.cutK 9 1 (Sp.cutK 8 1 (Sp.cutK 7 1 (Sp.cutK 6 2 (Sp.cutK 5 120 ks))))) 10 = true := u5
    obtain ⟨u6, n6, s6⟩ := cut_ups 120 _ u5 (by rw [s5 10 (by omega), s4 10 (by omega), s3 10 (by omega), s2 10 (by omega), s1 10 (by omega)]; omega)
    have u6 : Sp.ups (Sp.cutK 10 120 (Sp.cutK 9 1 (Sp.cutK 8 1 (Sp.cutK 7 1 (Sp.cutK 6 2 (Sp.cutK 5 120 ks)))))) 11 = true := u6
    obtain ⟨u7, n7, s7⟩ := cut_ups 1 _ u6 (by rw [s6 11 (by omega), s5 11 (by omega), s4 11 (by omega), s3 11 (by omega), s2 11 (by omega), s1 11 (by omega)]; omega)
    refine ⟨ups_12 u7, by rw [n1]; exact f1, ?_⟩
    have n2' : Sp.cutC 6 2 (Sp.cutK 5 120 ks) = Sp.cntK 6 (Sp.cutK 5 120 ks) := n2
    have n3' : Sp.cutC 7 1 (Sp.cutK 6 2 (Sp.cutK 5 120 ks)) = Sp.cntK 7 (Sp.cutK 6 2 (Sp.cutK 5 120 ks)) := n3
    have t2 : Sp.cntK 7 (Sp.cutK 6 2 (Sp.cutK 5 120 ks)) = Sp.cntK 7 (Sp.cutK 5 120 ks) := s2 7 (by omega)
    rw [n2', n3', t2, s1 6 (by omega), s1 7 (by omega)]
    omega
end Go.Proofs.GR.T

set_option maxRecDepth 1000000
set_option maxHeartbeats 100000000
namespace Go.Proofs.GR.T
open Go Go.Proofs Go.Proofs.GR
theorem lit5 : ByteArray.mk #[105] = bytesStr [Sp.letter 5] := by kernel_rfl
theorem lit6 : ByteArray.mk #[116] = bytesStr [Sp.letter 6] := by kernel_rfl
theorem lit7 : ByteArray.mk #[111] = bytesStr [Sp.letter 7] := by kernel_rfl
theorem lit8 : ByteArray.mk #[119] = bytesStr [Sp.letter 8] := by kernel_rfl
theorem lit9 : ByteArray.mk #[103] = bytesStr [Sp.letter 9] := by kernel_rfl
theorem lit10 : ByteArray.mk #[114] = bytesStr [Sp.letter 10] := by kernel_rfl
theorem lit11 : ByteArray.mk #[108] = bytesStr [Sp.letter 11] := by kernel_rfl
theorem lit12 : ByteArray.mk #[115] = bytesStr [Sp.letter 12] := by kernel_rfl
theorem cut_lit {k : Int} (h1 : 5 ≤ k) (h2 : k ≤ 12) (m : Int) {l : List RT} (h : partsR l) : Sp.cut (bytesStr (Sp.lets l)) (bytesStr [Sp.letter k]) m = (bytesStr (Sp.lets (Sp.cutK k m.toNat l)), ((Sp.cutC k m.toNat l : Nat) : Int)) := by
  obtain ⟨i1, i2⟩ := cut_eq h1 h2 m.toNat l h
  unfold Sp.cut
  rw [i1, i2]
theorem mt_lets {l : List RT} (h : partsR l) : ((bytesStr (Sp.lets l)).toList == (ByteArray.mk #[]).toList) = l.isEmpty := by
  have e : ByteArray.mk #[] = bytesStr [] := by kernel_rfl
  rw [e, beq_bytes (lets_bytes h) (isBytes_of fun x hx => by cases hx)]
  cases l <;> rfl
theorem ask_cut {c : ByteArray} (h : (Sp.f1146 (ByteArray.mk #[63]) c).1 = false) (m : Int) : Sp.cut (ByteArray.mk #[63]) c m = (ByteArray.mk #[63], (0 : Int)) := by
  unfold Sp.cut
  cases m.toNat with
  | zero => rfl
  | succ n => rw [Sp.cutB, Sp.cutN, h]; rfl
theorem kds0_eq (ks : List RT) : Sp.kds0 ks = bif Sp.allW Sp.partR ks then bytesStr (Sp.lets ks) else ByteArray.mk #[63] := kds_eq ks []
theorem query_eq (x0 x1 : Int) (x2 x3 : ByteArray) (x4 x5 : Int) (x6 : ByteArray) (x7 : List RT) (hl : x7.length ≤ 119) : (Sp.f1126 x0 x1 x2 x3 x4 x5 x6 x7).1 = Sp.shapeB x7 := by
  unfold Sp.f1126
  rw [kds0_eq]
  cases hp : Sp.allW Sp.partR x7 with
  | false =>
    rw [cond_false, ask_cut (by kernel_rfl) 120, ask_cut (by kernel_rfl) 2, ask_cut (by kernel_rfl) 1, ask_cut (by kernel_rfl) 1, ask_cut (by kernel_rfl) 1, ask_cut (by kernel_rfl) 120, ask_cut (by kernel_rfl) 1]
    have e : Sp.ups x7 5 = false := by
      cases h : Sp.ups x7 5 with
      | false => rfl
      | true => rw [ups_parts h] at hp; cases hp
    unfold Sp.shapeB
    rw [e]
    have e2 : ((ByteArray.mk #[63]).toList == (ByteArray.mk #[]).toList) = false := by kernel_rfl
    dsimp only
    rw [e2]; rfl
  | true =>
    have h0 := allW_parts hp
    have h1 := cutK_parts (k := 5) (m := 120) h0
    have h2 := cutK_parts (k := 6) (m := 2) h1
    have h3 := cutK_parts (k := 7) (m := 1) h2
    have h4 := cutK_parts (k := 8) (m := 1) h3
    have h5 := cutK_parts (k := 9) (m := 1) h4
    have h6 := cutK_parts (k := 10) (m := 120) h5
    have h7 : partsR (qcut x7) := cutK_parts (k := 11) (m := 1) h6
    have c1 : Sp.cut (bytesStr (Sp.lets x7)) (bytesStr [Sp.letter 5]) 120 = (bytesStr (Sp.lets (Sp.cutK 5 120 x7)), ((Sp.cutC 5 120 x7 : Nat) : Int)) := cut_lit (by omega) (by omega) 120 h0
    have c2 : Sp.cut (bytesStr (Sp.lets (Sp.cutK 5 120 x7))) (bytesStr [Sp.letter 6]) 2 = (bytesStr (Sp.lets (Sp.cutK 6 2 (Sp.cutK 5 120 x7))), ((Sp.cutC 6 2 (Sp.cutK 5 120 x7) : Nat) : Int)) := cut_lit (by omega) (by omega) 2 h1
    have c3 : Sp.cut (bytesStr (Sp.lets (Sp.cutK 6 2 (Sp.cutK 5 120 x7)))) (bytesStr [Sp.letter 7]) 1 = (bytesStr (Sp.lets (Sp.cutK 7 1 (Sp.cutK 6 2 (Sp.cutK 5 120 x7)))), ((Sp.cutC 7 1 (Sp.cutK 6 2 (Sp.cutK 5 120 x7)) : Nat) : Int)) := cut_lit (by omega) (by omega) 1 h2
    have c4 := cut_lit (k := 8) (by omega) (by omega) 1 h3
    have c5 := cut_lit (k := 9) (by omega) (by omega) 1 h4
    have c6 := cut_lit (k := 10) (by omega) (by omega) 120 h5
    have c7 := cut_lit (k := 11) (by omega) (by omega) 1 h6
    have c4 : Sp.cut (bytesStr (Sp.lets (Sp.cutK 7 1 (Sp.cutK 6 2 (Sp.cutK 5 120 x7))))) (bytesStr [Sp.letter 8]) 1 = (bytesStr (Sp.lets (Sp.cutK 8 1 (Sp.cutK 7 1 (Sp.cutK 6 2 (Sp.cutK 5 120 x7))))), ((Sp.cutC 8 1 (Sp.cutK 7 1 (Sp.cutK 6 2 (Sp.cutK 5 120 x7))) : Nat) : Int)) := c4
    have c5 : Sp.cut (bytesStr (Sp.lets (Sp.cutK 8 1 (Sp.cutK 7 1 (Sp.cutK 6 2 (Sp.cutK 5 120 x7)))))) (bytesStr [Sp.letter 9]) 1 = (bytesStr (Sp.lets (Sp.cutK 9 1 (Sp.cutK 8 1 (Sp.cutK 7 1 (Sp.cutK 6 2 (Sp.cutK 5 120 x7)))))), ((Sp.cutC 9 1 (Sp.cutK 8 1 (Sp.cutK 7 1 (Sp.cutK 6 2 (Sp.cutK 5 120 x7)))) : Nat) : Int)) := c5
    have c6 : Sp.cut (bytesStr (Sp.lets (Sp.cutK 9 1 (Sp.cutK 8 1 (Sp.cutK 7 1 (Sp.cutK 6 2 (Sp.cutK 5 120 x7))))))) (bytesStr [Sp.letter 10]) 120 = (bytesStr (Sp.lets (Sp.cutK 10 120 (Sp.cutK 9 1 (Sp.cutK 8 1 (Sp.cutK 7 1 (Sp.cutK 6 2 (Sp.cutK 5 120 x7))))))), ((Sp.cutC 10 120 (Sp.cutK 9 1 (Sp.cutK 8 1 (Sp.cutK 7 1 (Sp.cutK 6 2 (Sp.cutK 5 120 x7))))) : Nat) : Int)) := c6
    have c7 : Sp.cut (bytesStr (Sp.lets (Sp.cutK 10 120 (Sp.cutK 9 1 (Sp.cutK 8 1 (Sp.cutK 7 1 (Sp.cutK 6 2 (Sp.cutK 5 120 x7)))))))) (bytesStr [Sp.letter 11]) 1 = (bytesStr (Sp.lets (qcut x7)), ((Sp.cutC 11 1 (Sp.cutK 10 120 (Sp.cutK 9 1 (Sp.cutK 8 1 (Sp.cutK 7 1 (Sp.cutK 6 2 (Sp.cutK 5 120 x7)))))) : Nat) : Int)) := c7
    rw [cond_true, lit5, lit6, lit7, lit8, lit9, lit10, lit11, c1]
    dsimp only
    rw [c2]
    dsimp only
    rw [c3]
    dsimp only
    rw [c4]
    dsimp only
    rw [c5]
    dsimp only
    rw [c6]
    dsimp only
    rw [c7]
    dsimp only
    rw [mt_lets h7]
    have b3 : Sp.cutC 7 1 (Sp.cutK 6 2 (Sp.cutK 5 120 x7)) ≤ 1 := by
      obtain ⟨p, _, _, q1, q2⟩ := cutK_split 7 1 (Sp.cutK 6 2 (Sp.cutK 5 120 x7)); omega
    rw [wrap64 (n := ((Sp.cutC 7 1 (Sp.cutK 6 2 (Sp.cutK 5 120 x7)) : Nat) : Int) + 1) (by omega) (by omega), Bool.eq_iff_iff, ← shape_iff x7 hl h0]
    cases he : (qcut x7) with
    | cons a l => exact ⟨(fun h => by cases h), (fun h => by cases h.1)⟩
    | nil =>
      by_cases g1 : ((Sp.cutC 5 120 x7 : Nat) : Int) > 0
      · rw [decide_eq_true g1]
        show ((((Sp.cutC 6 2 (Sp.cutK 5 120 x7) : Nat) : Int) == ((Sp.cutC 7 1 (Sp.cutK 6 2 (Sp.cutK 5 120 x7)) : Nat) : Int) + 1) = true) ↔ _
        rw [beq_iff_eq]
        exact ⟨fun h => ⟨rfl, by omega, by omega⟩, fun h => by omega⟩
      · rw [decide_eq_false g1]
        exact ⟨(fun h => by cases h), fun h => absurd h.2.1 (by omega)⟩
theorem ends_more : ∀ (l : List RT) (m : Nat), l.length ≤ m → Sp.endsB true false l = bif Sp.allW Sp.partR l then (Sp.cutK 8 1 (Sp.cutK 12 m l)).isEmpty else false
  | [], 0, _ => rfl
  | [], m + 1, _ => rfl
  | r :: l, 0, h => by rw [List.length_cons] at h; omega
  | r :: l, m + 1, h => by
    rw [List.length_cons] at h
    rw [Sp.endsB, Sp.allW, Sp.cutK, ends_more l m (by omega)]
    cases Sp.partR r with
    | false => rfl
    | true =>
      cases r.a.1 == (12 : Int) with
      | true => rfl
      | false =>
        have e8 : Sp.cutK 8 1 (r :: l) = bif r.a.1 == (8 : Int) then Sp.cutK 8 0 l else r :: l := rfl
        show _ = bif (bif !true then false else Sp.allW Sp.partR l) then (Sp.cutK 8 1 (r :: l)).isEmpty else false
        rw [e8]
        cases r.a.1 == (8 : Int) with
        | false => cases Sp.allW Sp.partR l <;> rfl
        | true =>
          cases l with
          | nil => cases m <;> rfl
          | cons a s =>
            show false = bif Sp.allW Sp.partR (a :: s) then false else false
            cases Sp.allW Sp.partR (a :: s) <;> rfl
theorem ends_sets (l : List RT) (m : Nat) (h : l.length ≤ m) : Sp.endsS l true = bif Sp.allW Sp.partR l then (bif (Sp.cutK 8 1 (Sp.cutK 12 m l)).isEmpty then decide (((Sp.cutC 12 m l : Nat) : Int) > 0) else false) else false := by
  unfold Sp.endsS
  cases l with
  | nil => cases m <;> rfl
  | cons r l =>
    cases m with
    | zero => rw [List.length_cons] at h; omega
    | succ m =>
      rw [List.length_cons] at h
      rw [Sp.endsB, Sp.allW, Sp.cutK, Sp.cutC, ends_more l m (by omega)]
      rw [decide_eq_true (show (((r :: l).length : Nat) : Int) > 0 by rw [List.length_cons]; omega)]
      cases Sp.partR r with
      | false => rfl
      | true =>
        cases r.a.1 == (12 : Int) with
        | true =>
          have e9 : decide (((bif true then Sp.cutC 12 m l + 1 else 0 : Nat) : Int) > 0) = true := decide_eq_true (show ((Sp.cutC 12 m l + 1 : Nat) : Int) > 0 by omega)
          rw [cond_true, e9]
          cases Sp.allW Sp.partR l with
          | false => rfl
          | true =>
            show (bif (bif !true then false else (Sp.cutK 8 1 (Sp.cutK 12 m l)).isEmpty) then _ else _) = bif (Sp.cutK 8 1 (Sp.cutK 12 m l)).isEmpty then true else false
            cases (Sp.cutK 8 1 (Sp.cutK 12 m l)).isEmpty <;> rfl
        | false =>
          rw [cond_false, cond_false]
          have e : decide (((0 : Nat) : Int) > 0) = false := rfl
          rw [cond_false, e]
          cases r.a.1 == (8 : Int) <;> cases l.isEmpty <;> cases Sp.allW Sp.partR l <;> cases (Sp.cutK 8 1 (r :: l)).isEmpty <;> rfl
theorem ends_del (l : List RT) : Sp.endsS l false = bif Sp.allW Sp.partR l then (Sp.cutK 8 1 l).isEmpty else false := by
  unfold Sp.endsS
  cases l with
  | nil => rfl
  | cons r l =>
    rw [Sp.endsB, Sp.allW, Sp.cutK]
    cases Sp.partR r with
    | false => rfl
    | true =>
      have key : ((r.a.1 == (12 : Int)) && (r.a.1 == (8 : Int))) = false := by
        by_cases h : r.a.1 = 12
        · rw [h]; rfl
        · rw [show (r.a.1 == (12 : Int)) = false from decide_eq_false h]; rfl
      cases h12 : r.a.1 == (12 : Int) with
      | true =>
        rw [h12] at key
        rw [show (r.a.1 == (8 : Int)) = false from key]
        cases Sp.allW Sp.partR l <;> rfl
      | false =>
        cases r.a.1 == (8 : Int) with
        | false => cases Sp.allW Sp.partR l <;> rfl
        | true =>
          cases l with
          | nil => rfl
          | cons a s =>
            show false = bif Sp.allW Sp.partR (a :: s) then false else false
            cases Sp.allW Sp.partR (a :: s) <;> rfl
theorem upd_eq (x7 : List RT) (hl : x7.length ≤ 119) : (bif (Sp.cut (Sp.cut (Sp.kds0 x7) (ByteArray.mk #[115]) (120 : Int)).1 (ByteArray.mk #[119]) (1 : Int)).1.toList == (ByteArray.mk #[]).toList then (decide ((Sp.cut (Sp.kds0 x7) (ByteArray.mk #[115]) (120 : Int)).2 > (0 : Int)), ()) else (false, ())).1 = Sp.endsS x7 true := by
  rw [kds0_eq, ends_sets x7 120 (by omega)]
  cases hp : Sp.allW Sp.partR x7 with
  | false =>
    rw [cond_false, ask_cut (by kernel_rfl) 120, ask_cut (by kernel_rfl) 1]
    have e2 : ((ByteArray.mk #[63]).toList == (ByteArray.mk #[]).toList) = false := by kernel_rfl
    dsimp only
    rw [e2]; rfl
  | true =>
    have h0 := allW_parts hp
    have h1 := cutK_parts (k := 12) (m := 120) h0
    have h2 := cutK_parts (k := 8) (m := 1) h1
    have c1 : Sp.cut (bytesStr (Sp.lets x7)) (bytesStr [Sp.letter 12]) 120 = (bytesStr (Sp.lets (Sp.cutK 12 120 x7)), ((Sp.cutC 12 120 x7 : Nat) : Int)) := cut_lit (by omega) (by omega) 120 h0
    have c2 : Sp.cut (bytesStr (Sp.lets (Sp.cutK 12 120 x7))) (bytesStr [Sp.letter 8]) 1 = (bytesStr (Sp.lets (Sp.cutK 8 1 (Sp.cutK 12 120 x7))), ((Sp.cutC 8 1 (Sp.cutK 12 120 x7) : Nat) : Int)) := cut_lit (by omega) (by omega) 1 h1
    rw [cond_true, lit12, lit8, c1]
    dsimp only
    rw [c2]
    dsimp only
    rw [mt_lets h2]
    cases (Sp.cutK 8 1 (Sp.cutK 12 120 x7)).isEmpty <;> rfl
theorem del_eq (x7 : List RT) : ((Sp.cut (Sp.kds0 x7) (ByteArray.mk #[119]) (1 : Int)).1.toList == (ByteArray.mk #[]).toList) = Sp.endsS x7 false := by
  rw [kds0_eq, ends_del]
  cases hp : Sp.allW Sp.partR x7 with
  | false =>
    rw [cond_false, ask_cut (by kernel_rfl) 1]
    kernel_rfl
  | true =>
    have h0 := allW_parts hp
    have h1 := cutK_parts (k := 8) (m := 1) h0
    have c1 : Sp.cut (bytesStr (Sp.lets x7)) (bytesStr [Sp.letter 8]) 1 = (bytesStr (Sp.lets (Sp.cutK 8 1 x7)), ((Sp.cutC 8 1 x7 : Nat) : Int)) := cut_lit (by omega) (by omega) 1 h0
    rw [cond_true, lit8, c1]
    dsimp only
    rw [mt_lets h1]
    rfl
theorem sql_eq (x0 x1 : Int) (x2 x3 : ByteArray) (x4 x5 : Int) (x6 : ByteArray) (x7 : List RT) : (Sp.f1098 x0 x1 x2 x3 x4 x5 x6 x7).1 = Sp.sqlX x0 x1 x2 x3 x4 x5 x6 x7 := by
  have hb : (Sp.f1020 x0 x1 x2 x3 x4 x5 x6 x7).1 = decide (Sp.leftT (Sp.mkT (x0, x1, x2, x3, x4, x5, x6, x7)) 120 1 ≥ 0) := by
    rw [left_ok]
    unfold Sp.f1020
    show _ = bif !Sp.deepT (Sp.mkT (x0, x1, x2, x3, x4, x5, x6, x7)) 20 then decide ((((1 : Nat) + Sp.cntTs x7 : Nat) : Int) ≤ 120) else false
    cases Sp.deepT (Sp.mkT (x0, x1, x2, x3, x4, x5, x6, x7)) 20 <;> rfl
  have hn : decide (Sp.leftT (Sp.mkT (x0, x1, x2, x3, x4, x5, x6, x7)) 120 1 < 0) = !(Sp.f1020 x0 x1 x2 x3 x4 x5 x6 x7).1 := by
    rw [hb]
    by_cases h : Sp.leftT (Sp.mkT (x0, x1, x2, x3, x4, x5, x6, x7)) 120 1 < 0
    · rw [decide_eq_true h, decide_eq_false (show ¬Sp.leftT (Sp.mkT (x0, x1, x2, x3, x4, x5, x6, x7)) 120 1 ≥ 0 by omega)]; rfl
    · rw [decide_eq_false h, decide_eq_true (show Sp.leftT (Sp.mkT (x0, x1, x2, x3, x4, x5, x6, x7)) 120 1 ≥ 0 by omega)]; rfl
  unfold Sp.f1098 Sp.sqlX
  rw [hn]
  cases hc : (Sp.f1020 x0 x1 x2 x3 x4 x5 x6 x7).1 with
  | false => rfl
  | true =>
    have hl : x7.length ≤ 119 := by
      unfold Sp.f1020 at hc
      have := cnt_len x7
      revert hc
      cases Sp.deepT (Sp.mkT (x0, x1, x2, x3, x4, x5, x6, x7)) 20 with
      | true => intro hc; cases hc
      | false =>
        intro hc
        have hc : decide ((((1 : Nat) + Sp.cntTs x7 : Nat) : Int) ≤ 120) = true := hc
        have := of_decide_eq_true hc
        omega
    have hm : decide ((-1 : Int) < 0) = true := rfl
    have hx : ((!(Sp.f1026b x7).1, ()) : Bool × Unit) = (Sp.allW Sp.litS x7, ()) := by rw [xprs_eq]
    have hu := upd_eq x7 hl
    have hu : (bif (Sp.cut (Sp.cut (Sp.kds0 x7) (ByteArray.mk #[115]) (120 : Int)).1 (ByteArray.mk #[119]) (1 : Int)).1.toList == (ByteArray.mk #[]).toList then (decide ((Sp.cut (Sp.kds0 x7) (ByteArray.mk #[115]) (120 : Int)).2 > (0 : Int)), ()) else (false, ())) = (Sp.endsS x7 true, ()) := Prod.ext hu rfl
    rw [has_is, has_is, query_eq x0 x1 x2 x3 x4 x5 x6 x7 hl, free_eq, hx, hu, del_eq, len_pos]
    unfold Sp.hasX
    rw [hm, show (x1 != (0 : Int)) = !(x1 == (0 : Int)) from rfl]
    generalize (x1 == (0 : Int)) = b1
    generalize Sp.mtS x3 = b2
    generalize Sp.noVal x4 x5 x6 = b3
    generalize Sp.mtS x2 = b4
    generalize Sp.isFreeS x2 = b5
    generalize ((x7.length : Int) == (0 : Int)) = b6
    cases x0 == (1 : Int) with
    | true => cases b1 <;> cases b4 <;> cases b2 <;> cases b3 <;> rfl
    | false =>
      cases b1 with
      | false => rfl
      | true =>
      cases b2 with
      | false => rfl
      | true =>
      cases b3 with
      | false => rfl
      | true =>
      cases b5 with
      | false => cases x0 == (2 : Int) <;> cases x0 == (3 : Int) <;> cases x0 == (4 : Int) <;> rfl
      | true =>
        cases x0 == (2 : Int) with
        | true => cases b6 <;> rfl
        | false => cases x0 == (3 : Int) <;> cases x0 == (4 : Int) <;> rfl
theorem free_full {t : ByteArray} (h : Sp.isFreeS t = true) : (t.toList == (ByteArray.mk #[]).toList) = false := by
  cases e : t.toList == (ByteArray.mk #[]).toList with
  | false => rfl
  | true =>
    rw [beq_strBytes] at e
    have e2 : strBytes t = strBytes (ByteArray.mk #[]) := of_decide_eq_true e
    unfold Sp.isFreeS at h
    rw [e2] at h
    cases h
theorem part_named {r : RT} (h : Sp.partR r = true) : Sp.named r = true := by
  unfold Sp.named
  cases h6 : r.a.1 == (6 : Int) with
  | false => rfl
  | true =>
    have e : r.a.1 = 6 := eq_of_beq h6
    unfold Sp.partR Sp.partX at h
    rw [e] at h
    rw [cond_true]
    have hf : Sp.isFreeS r.a.2.2.1 = true := by
      cases hf : Sp.isFreeS r.a.2.2.1 with
      | true => rfl
      | false =>
        rw [hf] at h
        revert h
        cases Sp.noVal r.a.2.2.2.2.1 r.a.2.2.2.2.2.1 r.a.2.2.2.2.2.2 <;> cases r.a.2.1 == (0 : Int) <;> intro h <;> cases h
    rw [free_full hf]; rfl
theorem parts_named : ∀ {l : List RT}, partsR l → Sp.allW Sp.named l = true
  | [], _ => rfl
  | r :: l, h => by
    rw [Sp.allW, part_named (h r List.mem_cons_self), parts_named fun x hx => h x (List.mem_cons_of_mem _ hx)]
    rfl
theorem read_same {x0 x1 : Int} {x2 x3 : ByteArray} {x4 x5 : Int} {x6 : ByteArray} {x7 : List RT} (h : Sp.sqlX x0 x1 x2 x3 x4 x5 x6 x7 = true) : Sp.readI x0 x2 x7 = Sp.readS x0 x2 x7 := by
  unfold Sp.sqlX at h
  unfold Sp.readI Sp.readS Sp.srcs
  rw [show (x0 != (1 : Int)) = !(x0 == (1 : Int)) from rfl]
  revert h
  cases decide (Sp.leftT (Sp.mkT (x0, x1, x2, x3, x4, x5, x6, x7)) (120 : Int) (1 : Int) < (0 : Int)) with
  | true => intro h; cases h
  | false =>
  cases x1 != (0 : Int) with
  | true => intro h; cases h
  | false =>
  cases Sp.mtS x3 with
  | false => intro h; cases h
  | true =>
  cases Sp.noVal x4 x5 x6 with
  | false => intro h; cases h
  | true =>
  cases x0 == (1 : Int) with
  | true =>
    cases Sp.mtS x2 with
    | false => intro h; cases h
    | true =>
      intro h
      have h : Sp.shapeB x7 = true := h
      unfold Sp.shapeB at h
      cases hu : Sp.ups x7 5 with
      | false => rw [hu] at h; cases h
      | true => exact read_eq x7 x7 0 [] (parts_named (allW_parts (ups_parts hu)))
  | false =>
    cases hf : Sp.isFreeS x2 with
    | false => cases x0 == (2 : Int) <;> cases x0 == (3 : Int) <;> cases x0 == (4 : Int) <;> intro h <;> cases h
    | true =>
      intro _
      show Sp.readW [] [(x2, x2, (0 : Int))] = [x2]
      rw [Sp.readW, Sp.readW, Sp.noteW]
      show (bif !(x2.toList == (ByteArray.mk #[]).toList) then _ else _) = [x2]
      rw [free_full hf]
      rfl
theorem read_law (x0 x1 : Int) (x2 x3 : ByteArray) (x4 x5 : Int) (x6 : ByteArray) (x7 : List RT) : (Sp.f1074 x0 x1 x2 x3 x4 x5 x6 x7).1 = (Sp.f1073 x0 x1 x2 x3 x4 x5 x6 x7).1 := by
  unfold Sp.f1074 Sp.f1073
  have e : Sp.sqlR (Sp.mkT (x0, x1, x2, x3, x4, x5, x6, x7)) = Sp.sqlX x0 x1 x2 x3 x4 x5 x6 x7 := rfl
  rw [sql_eq, e]
  cases h : Sp.sqlX x0 x1 x2 x3 x4 x5 x6 x7 with
  | false => rfl
  | true => rw [read_same h]
theorem readW_len : ∀ (l : List VSo) (acc : List ByteArray), (Sp.readW acc l).length ≤ acc.length + l.length
  | [], acc => Nat.le_refl _
  | s :: r, acc => by
    rw [Sp.readW, List.length_cons]
    have h1 := readW_len r (Sp.noteW acc [s.1])
    have h2 := noteW_one acc s.1
    omega
theorem read_len (x0 x1 : Int) (x2 x3 : ByteArray) (x4 x5 : Int) (x6 : ByteArray) (x7 : List RT) : (Sp.f1074 x0 x1 x2 x3 x4 x5 x6 x7).1.1.length ≤ x7.length + 1 := by
  unfold Sp.f1074
  cases (Sp.f1098 x0 x1 x2 x3 x4 x5 x6 x7).1 with
  | false => exact Nat.zero_le _
  | true =>
    have h1 := readW_len (Sp.srcs x0 x2 x7) []
    have h2 := srcs_len x0 x2 x7
    show (Sp.readI x0 x2 x7).length ≤ _
    unfold Sp.readI
    rw [List.length_nil] at h1
    omega
theorem law1061_pre (x0 x1 : Int) (x2 x3 : ByteArray) (x4 x5 : Int) (x6 : ByteArray) (x7 : List RT) (hw : Wf tT (Sp.mkT (x0, x1, x2, x3, x4, x5, x6, x7))) : Sp.f1061_pre x0 x1 x2 x3 x4 x5 x6 x7 = true := by
  unfold Sp.f1061_pre
  by_cases hz : Sp.szT (Sp.mkT (x0, x1, x2, x3, x4, x5, x6, x7)) 1048576 < 0
  · rw [decide_eq_true hz, cond_true]
  have h1 := szT_wt _ hw 1048576 (by omega) (by omega) (by omega)
  have h1 : Sp.szT (Sp.mkT (x0, x1, x2, x3, x4, x5, x6, x7)) 1048576 + (Sp.cntTs x7 : Int) ≤ 1048576 := h1
  have hc : Sp.cntTs x7 ≤ 1048576 := by omega
  have hl := cnt_len x7
  have hrl := read_len x0 x1 x2 x3 x4 x5 x6 x7
  obtain ⟨s1, s2, s3⟩ := strT_parts (strT_of _ hw)
  have s3 : Sp.strTs x7 = true := s3
  have s1 : Sp.s63 x2 = true := s1
  have k1 : Sp.cnt32 x7 = true := cnt32_mk (by omega)
  have k2 : Sp.kdsP x7 = true := yes2_mk' s3 (fits32_mk (by omega))
  have kp : ∀ a b : Bool, a = true → b = true → (a && b) = true := fun a b ha hb => by rw [ha, hb]; rfl
  have ki : ∀ (c : Bool) (a b : Bool), a = true → b = true → (bif c then a else b) = true := fun c a b ha hb => by cases c <;> assumption
  have q1 : Sp.f1020_pre x0 x1 x2 x3 x4 x5 x6 x7 = true := by
    unfold Sp.f1020_pre; exact ki _ _ _ k1 rfl
  have q2 : Sp.f1126_pre x0 x1 x2 x3 x4 x5 x6 x7 = true := by
    unfold Sp.f1126_pre
    rw [k2]; kernel_rfl
  have q3 : Sp.f1029_pre x2 = true := s63_f s1
  have q4 : Sp.f1026b_pre x7 = true := s3
  have q5 : Sp.f1098_pre x0 x1 x2 x3 x4 x5 x6 x7 = true := by
    unfold Sp.f1098_pre
    rw [q1, q2, q3, q4, k2]
    have e1 : Sp.cutP (ByteArray.mk #[115]) (120 : Int) = true := by kernel_rfl
    have e2 : Sp.cutP (ByteArray.mk #[119]) (1 : Int) = true := by kernel_rfl
    rw [e1, e2]
    simp
  have q6 : Sp.f1074_pre x0 x1 x2 x3 x4 x5 x6 x7 = true := by
    unfold Sp.f1074_pre
    rw [q5, k1]; simp
  have q7 : Sp.f1073_pre x0 x1 x2 x3 x4 x5 x6 x7 = true := by
    unfold Sp.f1073_pre
    rw [k1]; simp
  have q8 : Sp.f1008_pre x0 x1 x2 x3 x4 x5 x6 x7 1 = true := smallTs_mk (by omega)
  have q9 : Sp.small (Sp.f1074 x0 x1 x2 x3 x4 x5 x6 x7).1.1 1 = true := small_mk (by omega) (by omega)
  have q10 : Sp.small (Sp.markS (Sp.f1074 x0 x1 x2 x3 x4 x5 x6 x7).1.1 1) 1 = true := small_mk (by omega) (by rw [markS_len]; omega)
  rw [decide_eq_false hz, cond_false, fitTs_cnt (l := x7) (by omega), q6, q7, q8, q9, q10]
  simp
theorem law1061 (x0 x1 : Int) (x2 x3 : ByteArray) (x4 x5 : Int) (x6 : ByteArray) (x7 : List RT) : (Sp.f1061 x0 x1 x2 x3 x4 x5 x6 x7).1 = true := by
  unfold Sp.f1061
  rw [read_law, eqS_self, eqT_self, heldS_mark]
  unfold Sp.f1008
  have h1 : ∀ l : List RT, decide (Sp.addTs l 1 < 0) = false := fun l => decide_eq_false (by unfold Sp.addTs; omega)
  have h2 : ∀ l : List ByteArray, decide ((1 : Int) + (l.length : Int) < 0) = false := fun l => decide_eq_false (by omega)
  have h3 : ∀ l : List ByteArray, ((1 : Int) + (l.length : Int) != Sp.addLen l 1) = false := fun l => by simp [Sp.addLen]
  have h4 : ∀ i : Int, (i != i) = false := fun i => by simp
  dsimp only
  rw [h1, h2, h3, h4]
  cases decide (Sp.szT (Sp.mkT (x0, x1, x2, x3, x4, x5, x6, x7)) 1048576 < 0) <;> rfl
end Go.Proofs.GR.T

