/-
  No statement is proved here: what the functions of the law answer, told as plain functions, and that the law's answer is always true.
  No condition.
-/
import Derived.Test.YtfihkpknhkbciaaGreatDoorTRuleOKn
set_option maxRecDepth 100000
set_option maxHeartbeats 100000000
namespace Go.Proofs.GR.T
open Go Go.Proofs Go.Proofs.GR
def Sp.isAnd (a : VA) : Bool := bif a.1 == 16 then a.2.2.1.toList == (ByteArray.mk #[97, 110, 100]).toList else false
mutual
def Sp.conjT : RT → List RT
  | .mk a ks => bif Sp.isAnd a then Sp.conj2 ks else [.mk a ks]
def Sp.conj2 : List RT → List RT
  | r :: s :: _ => Sp.conjT r ++ Sp.conjT s
  | _ => []
end
mutual
def Sp.andT : RT → Bool
  | .mk a ks => bif Sp.isAnd a then Sp.and2 ks else true
def Sp.and2 : List RT → Bool
  | r :: s :: _ => Sp.andT r && Sp.andT s
  | _ => false
end
end Go.Proofs.GR.T

set_option maxRecDepth 1000000
set_option maxHeartbeats 100000000
namespace Go.Proofs.GR.T
open Go Go.Proofs Go.Proofs.GR
end Go.Proofs.GR.T

set_option maxRecDepth 1000000
set_option maxHeartbeats 100000000
namespace Go.Proofs.GR.T
open Go Go.Proofs Go.Proofs.GR
theorem ops0 (t : ByteArray) : Sp.inOps t 0 = (false) := idx_any (Sp.sameS t) (Sp.f1038 0).1 0 (Int.le_refl 0)
theorem ops1 (t : ByteArray) : Sp.inOps t 1 = (bif (t.toList == (ByteArray.mk #[111, 114]).toList) then true else false) := idx_any (Sp.sameS t) (Sp.f1038 1).1 0 (Int.le_refl 0)
theorem ops2 (t : ByteArray) : Sp.inOps t 2 = (bif (t.toList == (ByteArray.mk #[97, 110, 100]).toList) then true else false) := idx_any (Sp.sameS t) (Sp.f1038 2).1 0 (Int.le_refl 0)
theorem ops3 (t : ByteArray) : Sp.inOps t 3 = (false) := idx_any (Sp.sameS t) (Sp.f1038 3).1 0 (Int.le_refl 0)
theorem ops4 (t : ByteArray) : Sp.inOps t 4 = (bif (t.toList == (ByteArray.mk #[61]).toList) then true else bif (t.toList == (ByteArray.mk #[60, 62]).toList) then true else bif (t.toList == (ByteArray.mk #[60]).toList) then true else bif (t.toList == (ByteArray.mk #[60, 61]).toList) then true else bif (t.toList == (ByteArray.mk #[62]).toList) then true else bif (t.toList == (ByteArray.mk #[62, 61]).toList) then true else false) := idx_any (Sp.sameS t) (Sp.f1038 4).1 0 (Int.le_refl 0)
theorem ops5 (t : ByteArray) : Sp.inOps t 5 = (bif (t.toList == (ByteArray.mk #[43]).toList) then true else bif (t.toList == (ByteArray.mk #[45]).toList) then true else false) := idx_any (Sp.sameS t) (Sp.f1038 5).1 0 (Int.le_refl 0)
theorem ops6 (t : ByteArray) : Sp.inOps t 6 = (bif (t.toList == (ByteArray.mk #[42]).toList) then true else bif (t.toList == (ByteArray.mk #[47]).toList) then true else bif (t.toList == (ByteArray.mk #[37]).toList) then true else false) := idx_any (Sp.sameS t) (Sp.f1038 6).1 0 (Int.le_refl 0)
theorem lev_pos (t : ByteArray) : decide (Sp.lev t > 0) = decide ((Sp.f1023 t).1 > 0) := by
  unfold Sp.lev
  rw [ops0, ops1, ops2, ops3, ops4, ops5, ops6]
  unfold Sp.f1023
  generalize (t.toList == (ByteArray.mk #[111, 114]).toList) = b0
  generalize (t.toList == (ByteArray.mk #[97, 110, 100]).toList) = b1
  generalize (t.toList == (ByteArray.mk #[61]).toList) = b2
  generalize (t.toList == (ByteArray.mk #[60, 62]).toList) = b3
  generalize (t.toList == (ByteArray.mk #[60]).toList) = b4
  generalize (t.toList == (ByteArray.mk #[60, 61]).toList) = b5
  generalize (t.toList == (ByteArray.mk #[62]).toList) = b6
  generalize (t.toList == (ByteArray.mk #[62, 61]).toList) = b7
  generalize (t.toList == (ByteArray.mk #[43]).toList) = b8
  generalize (t.toList == (ByteArray.mk #[45]).toList) = b9
  generalize (t.toList == (ByteArray.mk #[42]).toList) = b10
  generalize (t.toList == (ByteArray.mk #[47]).toList) = b11
  generalize (t.toList == (ByteArray.mk #[37]).toList) = b12
  cases b0 with
  | true => rfl
  | false =>
    simp only [cond_true, cond_false]
    cases b1 with
    | true => rfl
    | false =>
      simp only [cond_true, cond_false]
      cases b2 with
      | true => rfl
      | false =>
        simp only [cond_true, cond_false]
        cases b3 with
        | true => rfl
        | false =>
          simp only [cond_true, cond_false]
          cases b4 with
          | true => rfl
          | false =>
            simp only [cond_true, cond_false]
            cases b5 with
            | true => rfl
            | false =>
              simp only [cond_true, cond_false]
              cases b6 with
              | true => rfl
              | false =>
                simp only [cond_true, cond_false]
                cases b7 with
                | true => rfl
                | false =>
                  simp only [cond_true, cond_false]
                  cases b8 with
                  | true => rfl
                  | false =>
                    simp only [cond_true, cond_false]
                    cases b9 with
                    | true => rfl
                    | false =>
                      simp only [cond_true, cond_false]
                      cases b10 with
                      | true => rfl
                      | false =>
                        simp only [cond_true, cond_false]
                        cases b11 with
                        | true => rfl
                        | false =>
                          simp only [cond_true, cond_false]
                          cases b12 with
                          | true => rfl
                          | false =>
                            simp only [cond_true, cond_false]
theorem sameS_comm (t w : ByteArray) : (w.toList == t.toList) = Sp.sameS t w := by
  unfold Sp.sameS
  rw [Bool.eq_iff_iff, beq_iff_eq, beq_iff_eq]
  exact eq_comm
theorem free_eq (t : ByteArray) : (Sp.f1029 t).1 = Sp.isFreeS t := by
  unfold Sp.f1029 Sp.isFreeS
  rw [reserved_eq]
  generalize Sp.f209.1 = ws
  have e : (Sp.f1031 ws t).1 = Sp.anyW (Sp.sameS t) ws := idx_any (Sp.sameS t) ws 0 (Int.le_refl 0)
  have e2 : (fun w : ByteArray => !(w.toList == t.toList)) = fun w => !Sp.sameS t w := funext fun w => congrArg Bool.not (sameS_comm t w)
  rw [e2]
  cases Sp.isName (strBytes t) with
  | false => rfl
  | true =>
    show (!(Sp.f1031 ws t).1) = _
    rw [e, anyW_all, Bool.not_not]
    rfl
theorem un4_eq (t : ByteArray) : (Sp.f1031 Sp.unNames t).1 = Sp.un4 t := by
  have e : (Sp.f1031 Sp.unNames t).1 = Sp.anyW (Sp.sameS t) Sp.unNames := idx_any (Sp.sameS t) Sp.unNames 0 (Int.le_refl 0)
  rw [e]
  unfold Sp.un4 Sp.isW Sp.unNames
  simp only [Sp.anyW, Sp.sameS]
  congr 3
  cases t.toList == (ByteArray.mk #[105, 115, 110, 111, 116, 110, 117, 108, 108]).toList <;> rfl
theorem ag4_eq (t : ByteArray) : (Sp.f1031 Sp.f1033.1 t).1 = Sp.ag4 t := by
  have e : (Sp.f1031 Sp.f1033.1 t).1 = Sp.anyW (Sp.sameS t) Sp.f1033.1 := idx_any (Sp.sameS t) Sp.f1033.1 0 (Int.le_refl 0)
  rw [e]
  unfold Sp.ag4 Sp.isW Sp.f1033
  simp only [Sp.anyW, Sp.sameS]
  congr 3
  cases t.toList == (ByteArray.mk #[109, 97, 120]).toList <;> rfl
theorem has13 (a : VA) (ks : List RT) : Sp.hasT a ks false false false true 0 = bif a.2.1 == 0 then bif Sp.mt a.2.2.1 then bif Sp.mt a.2.2.2.1 then (ks.length : Int) == 0 else false else false else false := by
  unfold Sp.hasT Sp.f1028 Sp.mt
  simp only [cond_true, cond_false, show decide ((0 : Int) < 0) = false from rfl]
  cases a.2.1 == 0 <;> cases a.2.2.1.toList == (ByteArray.mk #[]).toList <;> cases a.2.2.2.1.toList == (ByteArray.mk #[]).toList <;> rfl
theorem has14 (a : VA) (ks : List RT) : Sp.hasT a ks false true true false 0 = bif a.2.1 == 0 then bif Sp.noV a.2.2.2.2 then (ks.length : Int) == 0 else false else false := by
  unfold Sp.hasT Sp.f1028 Sp.noV
  simp only [cond_true, cond_false, show decide ((0 : Int) < 0) = false from rfl]
  generalize (Go.Proofs.GR.eqI a.2.2.2.2.1 (0 : Int) && (Go.Proofs.GR.eqI a.2.2.2.2.2.1 (0 : Int) && (Go.Proofs.GR.eqS a.2.2.2.2.2.2 ByteArray.empty && true))) = v
  cases a.2.1 == 0 <;> cases v <;> rfl
theorem hasN (a : VA) (ks : List RT) (n : Int) : Sp.hasT a ks false true false false n = bif a.2.1 == 0 then bif Sp.mt a.2.2.2.1 then bif Sp.noV a.2.2.2.2 then bif decide (n < 0) then true else (ks.length : Int) == n else false else false else false := by
  unfold Sp.hasT Sp.f1028 Sp.noV Sp.mt
  simp only [cond_true, cond_false]
  generalize (Go.Proofs.GR.eqI a.2.2.2.2.1 (0 : Int) && (Go.Proofs.GR.eqI a.2.2.2.2.2.1 (0 : Int) && (Go.Proofs.GR.eqS a.2.2.2.2.2.2 ByteArray.empty && true))) = v
  cases a.2.1 == 0 <;> cases v <;> cases a.2.2.2.1.toList == (ByteArray.mk #[]).toList <;> cases decide (n < 0) <;> rfl
theorem f171_136 (x y : Int) (t : ByteArray) : (Sp.f171 x y t).1 = (Sp.f136 x y t).1 := by
  unfold Sp.f171 Sp.f136
  cases x == 0 <;> cases x == 1 <;> cases x == 2 <;> try rfl
  show (bif (Sp.f167 x).1 then _ else _ : Bool × Unit).1 = _
  unfold Sp.f167
  cases x == 3 <;> cases x == 4 <;> rfl
theorem xBad_l {ks : List RT} (ih : ∀ r ∈ ks, ∀ g, Sp.xOK r g = Sp.lT r g) (g : Bool) : Sp.xBad ks g = Sp.anyW (fun r => !Sp.lT r g) ks := by
  rw [← xBad_any]
  exact anyW_congr fun r hr => by rw [ih r hr g]
theorem xOK_eq : ∀ (r : RT) (g : Bool), Sp.xOK r g = Sp.lT r g :=
  Rose.ind fun a ks ih g => by
    rw [Sp.xOK, lT_mk, xBad_l ih]
    unfold Sp.xNode Sp.lNode
    rw [has13, has14, hasN, hasN, hasN, free_eq, un4_eq, ag4_eq, lev_pos, f171_136]
    have eF : (Sp.f1030 a.2.2.2.1).1 = bif Sp.mt a.2.2.2.1 then true else Sp.isFreeS a.2.2.2.1 := by
      unfold Sp.f1030 Sp.mt
      rw [free_eq]
      cases a.2.2.2.1.toList == (ByteArray.mk #[]).toList <;> rfl
    rw [eF, List.length_map]
    clear eF
    have bn : (a.1 != 17) = !(a.1 == 17) := rfl
    rw [bn]
    match ks with
    | [] =>
      have a0 : (((([] : List RT)).length : Int) == 0) = true := rfl
      have a1 : (((([] : List RT)).length : Int) == 1) = false := rfl
      have a2 : (((([] : List RT)).length : Int) == 2) = false := rfl
      rw [a0, a1, a2]
      by_cases h7 : a.1 = 17
      · rw [h7]
        rw [show ((17 : Int) == 13) = false from rfl, show ((17 : Int) == 14) = false from rfl, show ((17 : Int) == 15) = false from rfl, show ((17 : Int) == 16) = false from rfl, show ((17 : Int) == 17) = true from rfl]
        simp only [Sp.anyW, cond_true, cond_false, Bool.not_true, show decide ((0 : Int) < 0) = false from rfl, show decide ((1 : Int) < 0) = false from rfl, show decide ((2 : Int) < 0) = false from rfl, show decide ((-1 : Int) < 0) = true from rfl]
        generalize (a.2.1 == 0) = n0, Sp.mt a.2.2.1 = m1, Sp.mt a.2.2.2.1 = m2, Sp.noV a.2.2.2.2 = v, (Sp.f136 a.2.2.2.2.1 a.2.2.2.2.2.1 a.2.2.2.2.2.2).1 = f, Sp.isFreeS a.2.2.1 = i1, Sp.isFreeS a.2.2.2.1 = i2, Sp.un4 a.2.2.1 = u, Sp.ag4 a.2.2.1 = ag
        cases g <;> cases n0 <;> cases m2 <;> cases v <;> cases ag <;> rfl
      · rw [show (a.1 == 17) = false from beq_false_of_ne h7]
        generalize (a.1 == 13) = k3, (a.1 == 14) = k4, (a.1 == 15) = k5, (a.1 == 16) = k6
        simp only [Sp.anyW, cond_true, cond_false, Bool.not_false, show decide ((0 : Int) < 0) = false from rfl, show decide ((1 : Int) < 0) = false from rfl, show decide ((2 : Int) < 0) = false from rfl, show decide ((-1 : Int) < 0) = true from rfl]
        generalize (a.2.1 == 0) = n0, Sp.mt a.2.2.1 = m1, Sp.mt a.2.2.2.1 = m2, Sp.noV a.2.2.2.2 = v, (Sp.f136 a.2.2.2.2.1 a.2.2.2.2.2.1 a.2.2.2.2.2.2).1 = f, Sp.isFreeS a.2.2.1 = i1, Sp.isFreeS a.2.2.2.1 = i2, Sp.un4 a.2.2.1 = u, Sp.ag4 a.2.2.1 = ag
        have gg : (bif g then true else false) = g := by cases g <;> rfl
        try rw [gg]
        cases k3
        · cases k4
          · cases k5
            · cases k6
              · rfl
              · cases n0 <;> cases m2 <;> cases v <;> cases decide ((Sp.f1023 a.2.2.1).1 > 0) <;> rfl
            · cases n0 <;> cases m2 <;> cases v <;> cases u <;> rfl
          · cases n0 <;> cases m2 <;> cases v <;> cases i1 <;> cases i2 <;> rfl
        · cases n0 <;> cases m1 <;> cases m2 <;> cases f <;> rfl
    | [r] =>
      have a0 : (((([r] : List RT)).length : Int) == 0) = false := rfl
      have a1 : (((([r] : List RT)).length : Int) == 1) = true := rfl
      have a2 : (((([r] : List RT)).length : Int) == 2) = false := rfl
      have gf : ([r].map Sp.lT).getD 0 (fun _ => false) = Sp.lT r := rfl
      rw [a0, a1, a2, gf]
      by_cases h7 : a.1 = 17
      · rw [h7]
        rw [show ((17 : Int) == 13) = false from rfl, show ((17 : Int) == 14) = false from rfl, show ((17 : Int) == 15) = false from rfl, show ((17 : Int) == 16) = false from rfl, show ((17 : Int) == 17) = true from rfl]
        simp only [Sp.anyW, cond_true, cond_false, Bool.not_true, show decide ((0 : Int) < 0) = false from rfl, show decide ((1 : Int) < 0) = false from rfl, show decide ((2 : Int) < 0) = false from rfl, show decide ((-1 : Int) < 0) = true from rfl]
        generalize (a.2.1 == 0) = n0, Sp.mt a.2.2.1 = m1, Sp.mt a.2.2.2.1 = m2, Sp.noV a.2.2.2.2 = v, (Sp.f136 a.2.2.2.2.1 a.2.2.2.2.2.1 a.2.2.2.2.2.2).1 = f, Sp.isFreeS a.2.2.1 = i1, Sp.isFreeS a.2.2.2.1 = i2, Sp.un4 a.2.2.1 = u, Sp.ag4 a.2.2.1 = ag
        have gf0 : (bif g then false else false) = false := by cases g <;> rfl
        rw [gf0]
        cases g <;> cases n0 <;> cases m2 <;> cases v <;> cases ag <;> cases Sp.lT r false <;> rfl
      · rw [show (a.1 == 17) = false from beq_false_of_ne h7]
        generalize (a.1 == 13) = k3, (a.1 == 14) = k4, (a.1 == 15) = k5, (a.1 == 16) = k6
        simp only [Sp.anyW, cond_true, cond_false, Bool.not_false, show decide ((0 : Int) < 0) = false from rfl, show decide ((1 : Int) < 0) = false from rfl, show decide ((2 : Int) < 0) = false from rfl, show decide ((-1 : Int) < 0) = true from rfl]
        generalize (a.2.1 == 0) = n0, Sp.mt a.2.2.1 = m1, Sp.mt a.2.2.2.1 = m2, Sp.noV a.2.2.2.2 = v, (Sp.f136 a.2.2.2.2.1 a.2.2.2.2.2.1 a.2.2.2.2.2.2).1 = f, Sp.isFreeS a.2.2.1 = i1, Sp.isFreeS a.2.2.2.1 = i2, Sp.un4 a.2.2.1 = u, Sp.ag4 a.2.2.1 = ag
        have gg : (bif g then true else false) = g := by cases g <;> rfl
        try rw [gg]
        cases k3
        · cases k4
          · cases k5
            · cases k6
              · cases Sp.lT r g <;> rfl
              · cases Sp.lT r g <;> cases n0 <;> cases m2 <;> cases v <;> cases decide ((Sp.f1023 a.2.2.1).1 > 0) <;> rfl
            · cases Sp.lT r g <;> cases n0 <;> cases m2 <;> cases v <;> cases u <;> rfl
          · cases Sp.lT r g <;> cases n0 <;> cases m2 <;> cases v <;> cases i1 <;> cases i2 <;> rfl
        · cases Sp.lT r g <;> cases n0 <;> cases m1 <;> cases m2 <;> rfl
    | [r, s] =>
      have a0 : (((([r, s] : List RT)).length : Int) == 0) = false := rfl
      have a1 : (((([r, s] : List RT)).length : Int) == 1) = false := rfl
      have a2 : (((([r, s] : List RT)).length : Int) == 2) = true := rfl
      have gf : ([r, s].map Sp.lT).getD 0 (fun _ => false) = Sp.lT r := rfl
      have gs : ([r, s].map Sp.lT).getD 1 (fun _ => false) = Sp.lT s := rfl
      rw [a0, a1, a2, gf, gs]
      by_cases h7 : a.1 = 17
      · rw [h7]
        rw [show ((17 : Int) == 13) = false from rfl, show ((17 : Int) == 14) = false from rfl, show ((17 : Int) == 15) = false from rfl, show ((17 : Int) == 16) = false from rfl, show ((17 : Int) == 17) = true from rfl]
        simp only [Sp.anyW, cond_true, cond_false, Bool.not_true, show decide ((0 : Int) < 0) = false from rfl, show decide ((1 : Int) < 0) = false from rfl, show decide ((2 : Int) < 0) = false from rfl, show decide ((-1 : Int) < 0) = true from rfl]
        generalize (a.2.1 == 0) = n0, Sp.mt a.2.2.1 = m1, Sp.mt a.2.2.2.1 = m2, Sp.noV a.2.2.2.2 = v, (Sp.f136 a.2.2.2.2.1 a.2.2.2.2.2.1 a.2.2.2.2.2.2).1 = f, Sp.isFreeS a.2.2.1 = i1, Sp.isFreeS a.2.2.2.1 = i2, Sp.un4 a.2.2.1 = u, Sp.ag4 a.2.2.1 = ag
        have gf0 : (bif g then false else false) = false := by cases g <;> rfl
        rw [gf0]
        cases g <;> cases n0 <;> cases m2 <;> cases v <;> cases ag <;> cases Sp.lT r false <;> cases Sp.lT s false <;> rfl
      · rw [show (a.1 == 17) = false from beq_false_of_ne h7]
        generalize (a.1 == 13) = k3, (a.1 == 14) = k4, (a.1 == 15) = k5, (a.1 == 16) = k6
        simp only [Sp.anyW, cond_true, cond_false, Bool.not_false, show decide ((0 : Int) < 0) = false from rfl, show decide ((1 : Int) < 0) = false from rfl, show decide ((2 : Int) < 0) = false from rfl, show decide ((-1 : Int) < 0) = true from rfl]
        generalize (a.2.1 == 0) = n0, Sp.mt a.2.2.1 = m1, Sp.mt a.2.2.2.1 = m2, Sp.noV a.2.2.2.2 = v, (Sp.f136 a.2.2.2.2.1 a.2.2.2.2.2.1 a.2.2.2.2.2.2).1 = f, Sp.isFreeS a.2.2.1 = i1, Sp.isFreeS a.2.2.2.1 = i2, Sp.un4 a.2.2.1 = u, Sp.ag4 a.2.2.1 = ag
        have gg : (bif g then true else false) = g := by cases g <;> rfl
        try rw [gg]
        cases k3
        · cases k4
          · cases k5
            · cases k6
              · cases Sp.lT r g <;> cases Sp.lT s g <;> rfl
              · cases Sp.lT r g <;> cases Sp.lT s g <;> cases n0 <;> cases m2 <;> cases v <;> cases decide ((Sp.f1023 a.2.2.1).1 > 0) <;> rfl
            · cases Sp.lT r g <;> cases Sp.lT s g <;> cases n0 <;> cases m2 <;> cases v <;> cases u <;> rfl
          · cases Sp.lT r g <;> cases Sp.lT s g <;> cases n0 <;> cases m2 <;> cases v <;> cases i1 <;> cases i2 <;> rfl
        · cases Sp.lT r g <;> cases Sp.lT s g <;> cases n0 <;> cases m1 <;> cases m2 <;> rfl
    | r :: s :: t :: l =>
      have ln : ((r :: s :: t :: l : List RT).length : Int) = (l.length : Int) + 3 := by simp only [List.length_cons]; omega
      have a0 : (((r :: s :: t :: l : List RT).length : Int) == 0) = false := by rw [ln]; exact beq_false_of_ne (by omega)
      have a1 : (((r :: s :: t :: l : List RT).length : Int) == 1) = false := by rw [ln]; exact beq_false_of_ne (by omega)
      have a2 : (((r :: s :: t :: l : List RT).length : Int) == 2) = false := by rw [ln]; exact beq_false_of_ne (by omega)
      have gA : ∀ g, Sp.anyW (fun r => !Sp.lT r g) (r :: s :: t :: l) = true ∨ Sp.anyW (fun r => !Sp.lT r g) (r :: s :: t :: l) = false := fun g => by cases Sp.anyW (fun r => !Sp.lT r g) (r :: s :: t :: l) <;> simp
      rw [a0, a1, a2]
      generalize (Sp.anyW (fun r' => !Sp.lT r' (bif g then !(a.1 == 17) else false)) (r :: s :: t :: l)) = w
      by_cases h7 : a.1 = 17
      · rw [h7]
        rw [show ((17 : Int) == 13) = false from rfl, show ((17 : Int) == 14) = false from rfl, show ((17 : Int) == 15) = false from rfl, show ((17 : Int) == 16) = false from rfl, show ((17 : Int) == 17) = true from rfl]
        simp only [Sp.anyW, cond_true, cond_false, Bool.not_true, show decide ((0 : Int) < 0) = false from rfl, show decide ((1 : Int) < 0) = false from rfl, show decide ((2 : Int) < 0) = false from rfl, show decide ((-1 : Int) < 0) = true from rfl]
        generalize (a.2.1 == 0) = n0, Sp.mt a.2.2.1 = m1, Sp.mt a.2.2.2.1 = m2, Sp.noV a.2.2.2.2 = v, (Sp.f136 a.2.2.2.2.1 a.2.2.2.2.2.1 a.2.2.2.2.2.2).1 = f, Sp.isFreeS a.2.2.1 = i1, Sp.isFreeS a.2.2.2.1 = i2, Sp.un4 a.2.2.1 = u, Sp.ag4 a.2.2.1 = ag
        cases w <;> cases g <;> cases n0 <;> cases m2 <;> cases v <;> cases ag <;> rfl
      · try rw [show (a.1 == 17) = false from beq_false_of_ne h7]
        generalize (a.1 == 13) = k3, (a.1 == 14) = k4, (a.1 == 15) = k5, (a.1 == 16) = k6
        simp only [Sp.anyW, cond_true, cond_false, Bool.not_false, show decide ((0 : Int) < 0) = false from rfl, show decide ((1 : Int) < 0) = false from rfl, show decide ((2 : Int) < 0) = false from rfl, show decide ((-1 : Int) < 0) = true from rfl]
        generalize (a.2.1 == 0) = n0, Sp.mt a.2.2.1 = m1, Sp.mt a.2.2.2.1 = m2, Sp.noV a.2.2.2.2 = v, (Sp.f136 a.2.2.2.2.1 a.2.2.2.2.2.1 a.2.2.2.2.2.2).1 = f, Sp.isFreeS a.2.2.1 = i1, Sp.isFreeS a.2.2.2.1 = i2, Sp.un4 a.2.2.1 = u, Sp.ag4 a.2.2.1 = ag
        have gg : (bif g then true else false) = g := by cases g <;> rfl
        try rw [gg]
        cases k3
        · cases k4
          · cases k5
            · cases k6
              · cases w <;> rfl
              · cases w <;> cases n0 <;> cases m2 <;> cases v <;> cases decide ((Sp.f1023 a.2.2.1).1 > 0) <;> rfl
            · cases w <;> cases n0 <;> cases m2 <;> cases v <;> cases u <;> rfl
          · cases w <;> cases n0 <;> cases m2 <;> cases v <;> cases i1 <;> cases i2 <;> rfl
        · cases w <;> cases n0 <;> cases m1 <;> cases m2 <;> rfl
theorem wf_of {a : VA} {ks : List RT} (h : Wf tT (Rose.mk a ks)) : (a.2.2.1.size ≤ 9223372036854775807 ∧ a.2.2.2.1.size ≤ 9223372036854775807 ∧ a.2.2.2.2.2.2.size ≤ 9223372036854775807) ∧ ks.length ≤ 9223372036854775807 ∧ ∀ r ∈ ks, Wf tT r := by
  obtain ⟨h1, h2⟩ := Wf.rose_iff.1 h
  exact ⟨⟨h1.2.2.1, h1.2.2.2.1, h1.2.2.2.2.2.2⟩, h2⟩
theorem strTs_all : ∀ {l : List RT}, (∀ r ∈ l, Sp.strT r = true) → Sp.strTs l = true
  | [], _ => by rw [Sp.strTs]
  | r :: l, h => by rw [Sp.strTs, h r (List.mem_cons_self), strTs_all fun s hs => h s (List.mem_cons_of_mem _ hs)]; rfl
theorem strT_of : ∀ r : RT, Wf tT r → Sp.strT r = true :=
  Rose.ind fun a ks ih h => by
    obtain ⟨⟨h1, h2, h3⟩, h4, h5⟩ := wf_of h
    rw [Sp.strT, strTs_all fun r hr => ih r hr (h5 r hr)]
    unfold Sp.s63
    rw [Nat.ble_eq_true_of_le h1, Nat.ble_eq_true_of_le h2]
    rfl
theorem cntTs_eq2 : ∀ ks : List RT, Sp.cntTs ks = ks.length + Sp.wtW (fun r : RT => Sp.cntTs r.kids) ks
  | [] => by rw [Sp.cntTs]; rfl
  | r :: l => by
    have := cnt_kids r
    rw [Sp.cntTs, cntTs_eq2 l, List.length_cons, Sp.wtW]
    omega
theorem szTf_le {a : VA} {g : Int → Int} {n : Nat} (h1 : a.2.2.1.size ≤ 9223372036854775807) (h2 : a.2.2.2.1.size ≤ 9223372036854775807) (h3 : a.2.2.2.2.2.2.size ≤ 9223372036854775807) (hg : ∀ l, 0 ≤ l → l ≤ 1048576 → 0 ≤ g l → g l + (n : Int) ≤ l) (l : Int) (h0 : 0 ≤ l) (hl : l ≤ 1048576) (h : 0 ≤ Sp.szTf a g l) : Sp.szTf a g l + (n : Int) ≤ l := by
  unfold Sp.szTf at h ⊢
  rw [wrap64 (n := l - (a.2.2.1.size : Int)) (by omega) (by omega)] at h ⊢
  by_cases c1 : l - (a.2.2.1.size : Int) < 0
  · rw [decide_eq_true c1] at h; exact absurd h (show ¬ (0 : Int) ≤ -1 by decide)
  rw [decide_eq_false c1, cond_false] at h ⊢
  rw [wrap64 (n := l - (a.2.2.1.size : Int) - (a.2.2.2.1.size : Int)) (by omega) (by omega)] at h ⊢
  by_cases c2 : l - (a.2.2.1.size : Int) - (a.2.2.2.1.size : Int) < 0
  · rw [decide_eq_true c2] at h; exact absurd h (show ¬ (0 : Int) ≤ -1 by decide)
  rw [decide_eq_false c2, cond_false] at h ⊢
  have hv := szV_le (x := a.2.2.2.2) h3 (l - (a.2.2.1.size : Int) - (a.2.2.2.1.size : Int)) (by omega) (by omega)
  revert h hv
  generalize Sp.szV a.2.2.2.2 (l - (a.2.2.1.size : Int) - (a.2.2.2.1.size : Int)) = v
  intro h hv
  by_cases c3 : v < 0
  · rw [decide_eq_true c3] at h; exact absurd h (show ¬ (0 : Int) ≤ -1 by decide)
  rw [decide_eq_false c3, cond_false] at h ⊢
  by_cases c4 : g v < 0
  · rw [decide_eq_true c4] at h; exact absurd h (show ¬ (0 : Int) ≤ -1 by decide)
  rw [decide_eq_false c4, cond_false] at h ⊢
  have := hg v (by omega) (by omega) h
  omega
theorem szT_wt : ∀ r : RT, Wf tT r → ∀ l, 0 ≤ l → l ≤ 1048576 → 0 ≤ Sp.szT r l → Sp.szT r l + (Sp.cntTs r.kids : Int) ≤ l :=
  Rose.ind fun a ks ih h l h0 hl hz => by
    obtain ⟨⟨h1, h2, h3⟩, h4, h5⟩ := wf_of h
    rw [szT_mk] at hz ⊢
    refine szTf_le h1 h2 h3 (fun l h0 hl hz => ?_) l h0 hl hz
    have := szE_wt (f := Sp.szT) (c := fun r => Sp.cntTs r.kids) (xs := ks) h4 (fun x hx l a b c => ih x hx (h5 x hx) l a b c) h0 hl hz
    show _ + ((Sp.cntTs ks : Nat) : Int) ≤ l
    rw [cntTs_eq2 ks, Int.natCast_add]
    omega
theorem fitTs_list : ∀ {l : List RT}, (∀ r ∈ l, Sp.cntT r ≤ 1000000000000 → Sp.fitT r = true) → Sp.cntTs l ≤ 1000000000000 → Sp.fitTs l = true
  | [], _, _ => by rw [Sp.fitTs]
  | r :: l, h, hc => by
    have hl := cnt_len (r :: l)
    rw [Sp.cntTs] at hc hl
    rw [Sp.fitTs, Nat.ble_eq_true_of_le (by omega), h r (List.mem_cons_self) (by omega), fitTs_list (fun s hs => h s (List.mem_cons_of_mem _ hs)) (by omega)]
    rfl
theorem fitT_cnt : ∀ r : RT, Sp.cntT r ≤ 1000000000000 → Sp.fitT r = true :=
  Rose.ind fun a ks ih h => by
    rw [Sp.fitT]
    have := cnt_kids (Rose.mk a ks)
    have e : Sp.cntTs (Rose.mk a ks).kids = Sp.cntTs ks := rfl
    exact fitTs_list ih (by omega)
theorem fitTs_cnt {l : List RT} (h : Sp.cntTs l ≤ 1000000000000) : Sp.fitTs l = true := fitTs_list (fun r _ => fitT_cnt r) h
theorem eqTs_list : ∀ {l : List RT}, (∀ r ∈ l, Sp.eqT r r = true) → Sp.eqTs l l = true
  | [], _ => by rw [Sp.eqTs]
  | r :: l, h => by rw [Sp.eqTs, h r (List.mem_cons_self), eqTs_list fun s hs => h s (List.mem_cons_of_mem _ hs)]; rfl
theorem eqA_self (a : VA) : Sp.eqA a a = true := by
  have e : Sp.eqVt a.2.2.2.2 a.2.2.2.2 = true := by unfold Sp.eqVt Sp.f86; simp
  unfold Sp.eqA
  rw [e]
  simp
theorem eqT_self : ∀ r : RT, Sp.eqT r r = true :=
  Rose.ind fun a ks ih => by rw [Sp.eqT, eqA_self, eqTs_list ih]; rfl
theorem eqTs_self (l : List RT) : Sp.eqTs l l = true := eqTs_list fun r _ => eqT_self r
def Sp.leftP (dp : Bool) (c : Nat) (l v : Int) : Prop := (dp = false ∧ (c : Int) ≤ l → v = l - (c : Int)) ∧ (¬ (dp = false ∧ (c : Int) ≤ l) → v < 0)
theorem left_list : ∀ {ks : List RT} {d : Int}, (∀ r ∈ ks, ∀ l, 0 ≤ l → l ≤ 1000 → Sp.leftP (Sp.deepT r (Sp.predL (21 - d))) (Sp.cntT r) l (Sp.leftT r l (Sp.succL d))) → ∀ l, -1 ≤ l → l ≤ 1000 → Sp.leftP (Sp.deepTs ks (21 - d)) (Sp.cntTs ks) l (Sp.leftTs ks l d)
  | [], d, _, l, h0, h1 => by
    rw [Sp.deepTs, Sp.cntTs, Sp.leftTs]
    exact ⟨fun _ => by omega, fun h => by
      have : ¬ ((0 : Nat) : Int) ≤ l := fun hh => h ⟨rfl, hh⟩
      omega⟩
  | r :: ks, d, h, l, h0, h1 => by
    rw [Sp.deepTs, Sp.cntTs, Sp.leftTs]
    by_cases hc : l ≥ 0
    · rw [decide_eq_true hc, cond_true]
      obtain ⟨p1, p2⟩ := h r (List.mem_cons_self) l hc h1
      by_cases hq : Sp.deepT r (Sp.predL (21 - d)) = false ∧ (Sp.cntT r : Int) ≤ l
      · obtain ⟨q1, q2⟩ := left_list (fun s hs => h s (List.mem_cons_of_mem _ hs)) (l - (Sp.cntT r : Int)) (by omega) (by omega)
        rw [p1 hq, hq.1, cond_false]
        unfold Sp.leftP
        rw [Int.natCast_add]
        refine ⟨fun ⟨a, b⟩ => ?_, fun hn => q2 fun ⟨a, b⟩ => hn ⟨a, by omega⟩⟩
        have := q1 ⟨a, by omega⟩
        omega
      · have hv := p2 hq
        have e : Sp.leftTs ks (Sp.leftT r l (Sp.succL d)) d = Sp.leftT r l (Sp.succL d) := by
          cases ks with
          | nil => rw [Sp.leftTs]
          | cons s ks => rw [Sp.leftTs, decide_eq_false (by omega)]; rfl
        rw [e]
        refine ⟨fun ⟨a, b⟩ => ?_, fun _ => hv⟩
        exfalso
        rw [Int.natCast_add] at b
        refine hq ⟨?_, by omega⟩
        cases hd : Sp.deepT r (Sp.predL (21 - d)) with
        | false => rfl
        | true => rw [hd, cond_true] at a; cases a
    · rw [decide_eq_false hc, cond_false]
      unfold Sp.leftP
      rw [Int.natCast_add]
      exact ⟨fun ⟨a, b⟩ => by omega, fun _ => by omega⟩
theorem left_of : ∀ (r : RT) (l d : Int), 0 ≤ l → l ≤ 1000 → 1 ≤ d → d ≤ 21 → Sp.leftP (Sp.deepT r (21 - d)) (Sp.cntT r) l (Sp.leftT r l d) :=
  Rose.ind fun a ks ih l d h0 h1 d0 d1 => by
    have hk := cnt_kids (Rose.mk a ks)
    have e : Sp.cntTs (Rose.mk a ks).kids = Sp.cntTs ks := rfl
    rw [Sp.deepT, Sp.leftT, ← hk, e]
    by_cases hd : d = 21
    · subst hd
      exact ⟨fun h => (by cases h.1), fun _ => show (-1 : Int) < 0 by omega⟩
    · rw [decide_eq_false (show ¬ d > 20 by omega), cond_false, show ((21 - d) == 0) = false from beq_false_of_ne (by omega), cond_false]
      have e1 : Sp.predL l = l - 1 := wrap64 (by omega) (by omega)
      have e2 : Sp.succL d = d + 1 := wrap64 (by omega) (by omega)
      have e3 : Sp.predL (21 - d) = 21 - (d + 1) := (wrap64 (by omega) (by omega)).trans (by omega)
      obtain ⟨q1, q2⟩ := left_list (ks := ks) (d := d) (fun r hr l a b => by rw [e2, e3]; exact ih r hr l (d + 1) a b (by omega) (by omega)) (l - 1) (by omega) (by omega)
      rw [e1]
      unfold Sp.leftP
      rw [Int.natCast_add]
      refine ⟨fun ⟨a, b⟩ => ?_, fun hn => q2 fun ⟨a, b⟩ => hn ⟨a, by omega⟩⟩
      have := q1 ⟨a, by omega⟩
      omega
theorem left_ok (r : RT) : decide (Sp.leftT r 120 1 ≥ 0) = bif !Sp.deepT r 20 then decide ((((1 : Nat) + Sp.cntTs r.kids : Nat) : Int) ≤ 120) else false := by
  obtain ⟨p1, p2⟩ := left_of r 120 1 (by omega) (by omega) (by omega) (by omega)
  have p1 : Sp.deepT r 20 = false ∧ (Sp.cntT r : Int) ≤ 120 → Sp.leftT r 120 1 = 120 - (Sp.cntT r : Int) := p1
  have p2 : ¬ (Sp.deepT r 20 = false ∧ (Sp.cntT r : Int) ≤ 120) → Sp.leftT r 120 1 < 0 := p2
  rw [cnt_kids]
  by_cases h : Sp.deepT r 20 = false ∧ (Sp.cntT r : Int) ≤ 120
  · rw [h.1, decide_eq_true h.2, p1 h]
    exact decide_eq_true (by omega)
  · rw [decide_eq_false (by have := p2 h; omega)]
    cases hd : Sp.deepT r 20 with
    | true => rfl
    | false => exact (decide_eq_false fun hc => h ⟨hd, hc⟩).symm
end Go.Proofs.GR.T

set_option maxRecDepth 1000000
set_option maxHeartbeats 100000000
namespace Go.Proofs.GR.T
open Go Go.Proofs Go.Proofs.GR
def Sp.lets (ks : List RT) : List Int := ks.map fun r => Sp.letter r.a.1
end Go.Proofs.GR.T

set_option maxRecDepth 1000000
set_option maxHeartbeats 100000000
namespace Go.Proofs.GR.T
open Go Go.Proofs Go.Proofs.GR
theorem tail_cons {x : Int} {r : List Int} (hx : Sp.isBytes (x :: r) = true) : (bytesStr (x :: r)).extract 1 (bytesStr (x :: r)).size = bytesStr r := by
  rw [extract_eq, strBytes_bytesStr hx, bytesStr_size, List.length_cons]
  show bytesStr (List.take (r.length + 1 - 1) r) = _
  rw [Nat.add_sub_cancel, List.take_length]
end Go.Proofs.GR.T

set_option maxRecDepth 1000000
set_option maxHeartbeats 100000000
namespace Go.Proofs.GR.T
open Go Go.Proofs Go.Proofs.GR
end Go.Proofs.GR.T

set_option maxRecDepth 1000000
set_option maxHeartbeats 100000000
namespace Go.Proofs.GR.T
open Go Go.Proofs Go.Proofs.GR
abbrev tF : Ty := .pair .str (.pair .str (.int .i64))
abbrev VF := ByteArray × ByteArray × Int
abbrev VTy := List VF × Bool × List Int
def Sp.fIs (of name : ByteArray) (f : VF) : Bool := bif f.2.1.toList == name.toList then (bif of.toList == (ByteArray.mk #[]).toList then true else f.1.toList == of.toList) else false
def Sp.fFind (p : VF → Bool) : List VF → Int → Int → Int × Int
  | [], _, c => bif decide (c < 0) then (0, 11) else (c, 0)
  | f :: l, i, c => bif p f then (bif decide (c ≥ 0) then (0, 9) else Sp.fFind p l (i + 1) i) else Sp.fFind p l (i + 1) c
def Sp.findF (sc : List VF) (of name : ByteArray) : Int × Int := Sp.fFind (Sp.fIs of name) sc 0 (-1)

def Sp.hasI (l : List Int) (x : Int) : Bool := Sp.anyW (Sp.eqN x) l
def Sp.tyAt (sc : List VF) (i : Int) : Int := (sc.getD i.toNat (ByteArray.empty, ByteArray.empty, 0)).2.2
def Sp.colI (E : VTy) (of name : ByteArray) (p : Int) (g : Bool) : Int × Int × Int :=
  bif (Sp.findF E.1 of name).2 != 0 then (0, (Sp.findF E.1 of name).2, p)
  else bif (bif E.2.1 then bif !g then !Sp.hasI E.2.2 (Sp.findF E.1 of name).1 else false else false) then (0, 12, p)
  else (Sp.tyAt E.1 (Sp.findF E.1 of name).1, 0, 0)
def Sp.isOf (own want : Int) : Bool := bif own == want then true else own == 0
def Sp.wantI (ts : List Int) (ks : List RT) (p i kind : Int) : Int × Int := bif !Sp.isOf (ts.getD i.toNat 0) kind then (10, Sp.kidAt ks p i) else (0, 0)
def Sp.binI (l : Int) (ts : List Int) (ks : List RT) (p : Int) : Int × Int × Int :=
  bif l == 4 then (bif ts.getD 0 0 == 0 then (1, 0, 0) else (1, Sp.wantI ts ks p 1 (ts.getD 0 0)))
  else bif decide (l < 4) then (bif (Sp.wantI ts ks p 0 1).1 != 0 then (0, Sp.wantI ts ks p 0 1) else (1, Sp.wantI ts ks p 1 1))
  else (bif (Sp.wantI ts ks p 0 2).1 != 0 then (0, Sp.wantI ts ks p 0 2) else (2, Sp.wantI ts ks p 1 2))
def Sp.nodeI (E : VTy) (a : VA) (ts : List Int) (ks : List RT) (p : Int) (g : Bool) : Int × Int × Int :=
  bif a.1 == 13 then (a.2.2.2.2.1, 0, 0)
  else bif a.1 == 14 then Sp.colI E a.2.2.2.1 a.2.2.1 p g
  else bif a.1 == 15 then (bif Sp.isW #[45] a.2.2.1 then (2, Sp.wantI ts ks p 0 2) else bif Sp.isW #[110, 111, 116] a.2.2.1 then (1, Sp.wantI ts ks p 0 1) else (1, 0, 0))
  else bif a.1 == 17 then (bif Sp.isW #[99, 111, 117, 110, 116] a.2.2.1 then (2, 0, 0) else bif Sp.isW #[115, 117, 109] a.2.2.1 then (2, Sp.wantI ts ks p 0 2) else (ts.getD 0 0, 0, 0))
  else Sp.binI (Sp.lev a.2.2.1) ts ks p
mutual
def Sp.tyI (E : VTy) : RT → Int → Bool → Int × Int × Int
  | .mk a ks, p, g => bif (Sp.tysI E ks (p + 1) (bif g then true else a.1 == 17)).2.1 != 0 then (0, (Sp.tysI E ks (p + 1) (bif g then true else a.1 == 17)).2) else Sp.nodeI E a (Sp.tysI E ks (p + 1) (bif g then true else a.1 == 17)).1 ks p g
def Sp.tysI (E : VTy) : List RT → Int → Bool → List Int × Int × Int
  | [], _, _ => ([], 0, 0)
  | r :: l, p, g => bif (Sp.tyI E r p g).2.1 != 0 then ([], (Sp.tyI E r p g).2) else ((Sp.tyI E r p g).1 :: (Sp.tysI E l (p + (Sp.cntT r : Int)) g).1, (Sp.tysI E l (p + (Sp.cntT r : Int)) g).2)
end
abbrev SC := Int × Int × Int
def Sp.failS (code place : Int) (s : SC) : SC := bif s.2.1 == 0 then (s.1, code, place) else s
def Sp.wantS (t due place : Int) (s : SC) : SC := bif t != 0 then (bif due != 0 then (bif t != due then Sp.failS 10 place s else s) else s) else s
def Sp.stepS (s : SC) : SC := (Sp.succL s.1, s.2)
def Sp.colS (E : VTy) (of name : ByteArray) (g : Bool) (s : SC) : Int × SC :=
  bif (Sp.findF E.1 of name).2 != 0 then (0, Sp.failS (Sp.findF E.1 of name).2 s.1 (Sp.stepS s))
  else bif (bif E.2.1 then bif !g then !Sp.hasI E.2.2 (Sp.findF E.1 of name).1 else false else false) then (Sp.tyAt E.1 (Sp.findF E.1 of name).1, Sp.failS 12 s.1 (Sp.stepS s))
  else (Sp.tyAt E.1 (Sp.findF E.1 of name).1, Sp.stepS s)
def Sp.noS (_ : Bool) (s : SC) : Int × SC := (0, s)
def Sp.nodeS (E : VTy) (a : VA) (fs : List (Bool → SC → Int × SC)) (g : Bool) (s : SC) : Int × SC :=
  bif a.1 == 13 then (a.2.2.2.2.1, Sp.stepS s)
  else bif a.1 == 14 then Sp.colS E a.2.2.2.1 a.2.2.1 g s
  else bif a.1 == 17 then (bif (fs.length : Int) == 0 then (2, Sp.stepS s) else
    bif Sp.isW #[99, 111, 117, 110, 116] a.2.2.1 then (2, (fs.getD 0 Sp.noS true (Sp.stepS s)).2)
    else bif Sp.isW #[115, 117, 109] a.2.2.1 then (2, Sp.wantS (fs.getD 0 Sp.noS true (Sp.stepS s)).1 2 (Sp.stepS s).1 (fs.getD 0 Sp.noS true (Sp.stepS s)).2)
    else fs.getD 0 Sp.noS true (Sp.stepS s))
  else bif a.1 == 15 then (bif Sp.isW #[45] a.2.2.1 then (2, Sp.wantS (fs.getD 0 Sp.noS g (Sp.stepS s)).1 2 (Sp.stepS s).1 (fs.getD 0 Sp.noS g (Sp.stepS s)).2)
    else bif Sp.isW #[110, 111, 116] a.2.2.1 then (1, Sp.wantS (fs.getD 0 Sp.noS g (Sp.stepS s)).1 1 (Sp.stepS s).1 (fs.getD 0 Sp.noS g (Sp.stepS s)).2)
    else (1, (fs.getD 0 Sp.noS g (Sp.stepS s)).2))
  else
    let y := fs.getD 0 Sp.noS g (Sp.stepS s)
    let z := fs.getD 1 Sp.noS g y.2
    let l := (Sp.f1023 a.2.2.1).1
    bif (bif l == 1 then true else l == 2) then (1, Sp.wantS z.1 1 y.2.1 (Sp.wantS y.1 1 (Sp.stepS s).1 z.2))
    else bif l == 4 then (1, Sp.wantS z.1 y.1 y.2.1 z.2)
    else (2, Sp.wantS z.1 2 y.2.1 (Sp.wantS y.1 2 (Sp.stepS s).1 z.2))
def Sp.tyS (E : VTy) : RT → Bool → SC → Int × SC := Rose.fold (Sp.nodeS E)
theorem tyS_mk (E : VTy) (a : VA) (ks : List RT) (g : Bool) (s : SC) : Sp.tyS E (Rose.mk a ks) g s = Sp.nodeS E a (ks.map (Sp.tyS E)) g s := by unfold Sp.tyS; rw [Rose.fold_mk]
def TyR (x : Int × Int × Int) (y : Int × SC) (m c pl : Int) : Prop := y.2.1 = m ∧ (c ≠ 0 → y.2.2 = (c, pl)) ∧ (c = 0 → (x.2.1 = 0 → y.1 = x.1 ∧ y.2.2 = (0, pl)) ∧ (x.2.1 ≠ 0 → y.2.2 = x.2))
theorem lev5 (t : ByteArray) (h : 0 < (Sp.f1023 t).1) : Sp.lev t = (Sp.f1023 t).1 ∧ ((Sp.f1023 t).1 = 1 ∨ (Sp.f1023 t).1 = 2 ∨ (Sp.f1023 t).1 = 4 ∨ (Sp.f1023 t).1 = 5 ∨ (Sp.f1023 t).1 = 6) := by
  revert h
  unfold Sp.lev
  rw [ops0, ops1, ops2, ops3, ops4, ops5, ops6]
  unfold Sp.f1023
  generalize (t.toList == (ByteArray.mk #[111, 114]).toList) = b0
  generalize (t.toList == (ByteArray.mk #[97, 110, 100]).toList) = b1
  generalize (t.toList == (ByteArray.mk #[61]).toList) = b2
  generalize (t.toList == (ByteArray.mk #[60, 62]).toList) = b3
  generalize (t.toList == (ByteArray.mk #[60]).toList) = b4
  generalize (t.toList == (ByteArray.mk #[60, 61]).toList) = b5
  generalize (t.toList == (ByteArray.mk #[62]).toList) = b6
  generalize (t.toList == (ByteArray.mk #[62, 61]).toList) = b7
  generalize (t.toList == (ByteArray.mk #[43]).toList) = b8
  generalize (t.toList == (ByteArray.mk #[45]).toList) = b9
  generalize (t.toList == (ByteArray.mk #[42]).toList) = b10
  generalize (t.toList == (ByteArray.mk #[47]).toList) = b11
  generalize (t.toList == (ByteArray.mk #[37]).toList) = b12
  cases b0 with
  | true => intro _; exact ⟨rfl, by first | exact Or.inl rfl | exact Or.inr (Or.inl rfl) | exact Or.inr (Or.inr (Or.inl rfl)) | exact Or.inr (Or.inr (Or.inr (Or.inl rfl))) | exact Or.inr (Or.inr (Or.inr (Or.inr rfl)))⟩
  | false =>
    simp only [cond_true, cond_false]
    cases b1 with
    | true => intro _; exact ⟨rfl, by first | exact Or.inl rfl | exact Or.inr (Or.inl rfl) | exact Or.inr (Or.inr (Or.inl rfl)) | exact Or.inr (Or.inr (Or.inr (Or.inl rfl))) | exact Or.inr (Or.inr (Or.inr (Or.inr rfl)))⟩
    | false =>
      simp only [cond_true, cond_false]
      cases b2 with
      | true => intro _; exact ⟨rfl, by first | exact Or.inl rfl | exact Or.inr (Or.inl rfl) | exact Or.inr (Or.inr (Or.inl rfl)) | exact Or.inr (Or.inr (Or.inr (Or.inl rfl))) | exact Or.inr (Or.inr (Or.inr (Or.inr rfl)))⟩
      | false =>
        simp only [cond_true, cond_false]
        cases b3 with
        | true => intro _; exact ⟨rfl, by first | exact Or.inl rfl | exact Or.inr (Or.inl rfl) | exact Or.inr (Or.inr (Or.inl rfl)) | exact Or.inr (Or.inr (Or.inr (Or.inl rfl))) | exact Or.inr (Or.inr (Or.inr (Or.inr rfl)))⟩
        | false =>
          simp only [cond_true, cond_false]
          cases b4 with
          | true => intro _; exact ⟨rfl, by first | exact Or.inl rfl | exact Or.inr (Or.inl rfl) | exact Or.inr (Or.inr (Or.inl rfl)) | exact Or.inr (Or.inr (Or.inr (Or.inl rfl))) | exact Or.inr (Or.inr (Or.inr (Or.inr rfl)))⟩
          | false =>
            simp only [cond_true, cond_false]
            cases b5 with
            | true => intro _; exact ⟨rfl, by first | exact Or.inl rfl | exact Or.inr (Or.inl rfl) | exact Or.inr (Or.inr (Or.inl rfl)) | exact Or.inr (Or.inr (Or.inr (Or.inl rfl))) | exact Or.inr (Or.inr (Or.inr (Or.inr rfl)))⟩
            | false =>
              simp only [cond_true, cond_false]
              cases b6 with
              | true => intro _; exact ⟨rfl, by first | exact Or.inl rfl | exact Or.inr (Or.inl rfl) | exact Or.inr (Or.inr (Or.inl rfl)) | exact Or.inr (Or.inr (Or.inr (Or.inl rfl))) | exact Or.inr (Or.inr (Or.inr (Or.inr rfl)))⟩
              | false =>
                simp only [cond_true, cond_false]
                cases b7 with
                | true => intro _; exact ⟨rfl, by first | exact Or.inl rfl | exact Or.inr (Or.inl rfl) | exact Or.inr (Or.inr (Or.inl rfl)) | exact Or.inr (Or.inr (Or.inr (Or.inl rfl))) | exact Or.inr (Or.inr (Or.inr (Or.inr rfl)))⟩
                | false =>
                  simp only [cond_true, cond_false]
                  cases b8 with
                  | true => intro _; exact ⟨rfl, by first | exact Or.inl rfl | exact Or.inr (Or.inl rfl) | exact Or.inr (Or.inr (Or.inl rfl)) | exact Or.inr (Or.inr (Or.inr (Or.inl rfl))) | exact Or.inr (Or.inr (Or.inr (Or.inr rfl)))⟩
                  | false =>
                    simp only [cond_true, cond_false]
                    cases b9 with
                    | true => intro _; exact ⟨rfl, by first | exact Or.inl rfl | exact Or.inr (Or.inl rfl) | exact Or.inr (Or.inr (Or.inl rfl)) | exact Or.inr (Or.inr (Or.inr (Or.inl rfl))) | exact Or.inr (Or.inr (Or.inr (Or.inr rfl)))⟩
                    | false =>
                      simp only [cond_true, cond_false]
                      cases b10 with
                      | true => intro _; exact ⟨rfl, by first | exact Or.inl rfl | exact Or.inr (Or.inl rfl) | exact Or.inr (Or.inr (Or.inl rfl)) | exact Or.inr (Or.inr (Or.inr (Or.inl rfl))) | exact Or.inr (Or.inr (Or.inr (Or.inr rfl)))⟩
                      | false =>
                        simp only [cond_true, cond_false]
                        cases b11 with
                        | true => intro _; exact ⟨rfl, by first | exact Or.inl rfl | exact Or.inr (Or.inl rfl) | exact Or.inr (Or.inr (Or.inl rfl)) | exact Or.inr (Or.inr (Or.inr (Or.inl rfl))) | exact Or.inr (Or.inr (Or.inr (Or.inr rfl)))⟩
                        | false =>
                          simp only [cond_true, cond_false]
                          cases b12 with
                          | true => intro _; exact ⟨rfl, by first | exact Or.inl rfl | exact Or.inr (Or.inl rfl) | exact Or.inr (Or.inr (Or.inl rfl)) | exact Or.inr (Or.inr (Or.inr (Or.inl rfl))) | exact Or.inr (Or.inr (Or.inr (Or.inr rfl)))⟩
                          | false =>
                            simp only [cond_true, cond_false]
                            intro h; exact absurd h (by decide)
theorem arity (a : VA) (ks : List RT) (b : Bool) (h : Sp.lT (Rose.mk a ks) b = true) :
    ((a.1 = 13 ∨ a.1 = 14) ∧ ks = []) ∨ (a.1 = 15 ∧ ∃ r, ks = [r] ∧ Sp.lT r b = true) ∨ (a.1 = 17 ∧ ((ks = [] ∧ Sp.isW #[99, 111, 117, 110, 116] a.2.2.1 = true) ∨ ∃ r, ks = [r] ∧ Sp.lT r false = true)) ∨
    (a.1 = 16 ∧ 0 < (Sp.f1023 a.2.2.1).1 ∧ ∃ r s, ks = [r, s] ∧ Sp.lT r b = true ∧ Sp.lT s b = true) := by
  rw [lT_mk] at h
  unfold Sp.lNode at h
  rw [List.length_map] at h
  have len0 : ((ks.length : Int) == 0) = true → ks = [] := fun e => by
    cases ks with
    | nil => rfl
    | cons r l => rw [List.length_cons] at e; exact absurd (eq_of_beq e) (by omega)
  have len1 : ((ks.length : Int) == 1) = true → ∃ r, ks = [r] := fun e => by
    match ks with
    | [] => exact absurd (eq_of_beq e) (by decide)
    | [r] => exact ⟨r, rfl⟩
    | r :: s :: l => rw [List.length_cons, List.length_cons] at e; exact absurd (eq_of_beq e) (by omega)
  have len2 : ((ks.length : Int) == 2) = true → ∃ r s, ks = [r, s] := fun e => by
    match ks with
    | [] => exact absurd (eq_of_beq e) (by decide)
    | [r] => exact absurd (eq_of_beq e) (show ¬ ((1 : Nat) : Int) = 2 by decide)
    | [r, s] => exact ⟨r, s, rfl⟩
    | r :: s :: t :: l => rw [List.length_cons, List.length_cons, List.length_cons] at e; exact absurd (eq_of_beq e) (by omega)
  have yes : ∀ {c x : Bool}, (bif c then x else false) = true → c = true ∧ x = true := fun {c x} e => by cases c with | true => exact ⟨rfl, e⟩ | false => cases e
  cases e3 : a.1 == 13 with
  | true =>
    rw [e3, cond_true] at h
    obtain ⟨_, h⟩ := yes h
    obtain ⟨_, h⟩ := yes h
    obtain ⟨_, h⟩ := yes h
    obtain ⟨h, _⟩ := yes h
    exact Or.inl ⟨Or.inl (eq_of_beq e3), len0 h⟩
  | false =>
  rw [e3, cond_false] at h
  cases e4 : a.1 == 14 with
  | true =>
    rw [e4, cond_true] at h
    obtain ⟨_, h⟩ := yes h
    obtain ⟨_, h⟩ := yes h
    obtain ⟨_, h⟩ := yes h
    refine Or.inl ⟨Or.inr (eq_of_beq e4), len0 ?_⟩
    cases em : Sp.mt a.2.2.2.1 with
    | true => rw [em] at h; exact h
    | false => rw [em, cond_false] at h; exact (yes h).2
  | false =>
  rw [e4, cond_false] at h
  cases e5 : a.1 == 15 with
  | true =>
    rw [e5, cond_true] at h
    obtain ⟨_, h⟩ := yes h
    obtain ⟨_, h⟩ := yes h
    obtain ⟨_, h⟩ := yes h
    obtain ⟨_, h⟩ := yes h
    obtain ⟨h, h2⟩ := yes h
    obtain ⟨r, rfl⟩ := len1 h
    exact Or.inr (Or.inl ⟨eq_of_beq e5, r, rfl, h2⟩)
  | false =>
  rw [e5, cond_false] at h
  cases e6 : a.1 == 16 with
  | true =>
    rw [e6, cond_true] at h
    obtain ⟨_, h⟩ := yes h
    obtain ⟨_, h⟩ := yes h
    obtain ⟨_, h⟩ := yes h
    obtain ⟨hp, h⟩ := yes h
    obtain ⟨h, h2⟩ := yes h
    obtain ⟨r, s, rfl⟩ := len2 h
    obtain ⟨h3, h4⟩ := yes h2
    exact Or.inr (Or.inr (Or.inr ⟨eq_of_beq e6, of_decide_eq_true hp, r, s, rfl, h3, h4⟩))
  | false =>
  rw [e6, cond_false] at h
  obtain ⟨e7, h⟩ := yes h
  obtain ⟨_, h⟩ := yes h
  obtain ⟨_, h⟩ := yes h
  obtain ⟨_, h⟩ := yes h
  obtain ⟨_, h⟩ := yes h
  obtain ⟨_, h⟩ := yes h
  refine Or.inr (Or.inr (Or.inl ⟨eq_of_beq e7, ?_⟩))
  cases e1 : (ks.length : Int) == 1 with
  | true =>
    rw [e1, cond_true] at h
    obtain ⟨r, rfl⟩ := len1 e1
    exact Or.inr ⟨r, rfl, h⟩
  | false =>
    rw [e1, cond_false] at h
    obtain ⟨h, h2⟩ := yes h
    exact Or.inl ⟨len0 h, h2⟩
theorem wantS_ne {t d p : Int} {s : SC} (h : s.2.1 ≠ 0) : Sp.wantS t d p s = s := by
  unfold Sp.wantS Sp.failS
  rw [beq_false_of_ne h, cond_false]
  cases t != 0 <;> cases d != 0 <;> cases t != d <;> rfl
theorem wantS_z {t d p m pl : Int} (hd : d ≠ 0) : Sp.wantS t d p (m, 0, pl) = bif !Sp.isOf t d then (m, 10, p) else (m, 0, pl) := by
  unfold Sp.wantS Sp.isOf Sp.failS
  have e : (d != 0) = true := by rw [bne, beq_false_of_ne hd]; rfl
  rw [e, bne, bne]
  cases t == 0 <;> cases t == d <;> rfl
theorem kid0 (ks : List RT) (p : Int) : Sp.kidAt ks p 0 = p + 1 := by
  unfold Sp.kidAt
  rw [show (0 : Int).toNat = 0 from rfl, List.take_zero, show Sp.cntTs [] = 0 by rw [Sp.cntTs]]
  omega
theorem kid1 (r : RT) (ks : List RT) (p : Int) : Sp.kidAt (r :: ks) p 1 = p + 1 + (Sp.cntT r : Int) := by
  unfold Sp.kidAt
  rw [show (1 : Int).toNat = 1 from rfl, List.take_succ_cons, List.take_zero, Sp.cntTs, show Sp.cntTs [] = 0 by rw [Sp.cntTs]]
  omega
theorem one_ty {x : Int × Int × Int} {y : Int × SC} {m c pl : Int} (h : TyR x y m c pl) (ks : List RT) (p k d : Int) (hd : d ≠ 0) :
    TyR (bif x.2.1 != 0 then (0, x.2) else (k, bif !Sp.isOf x.1 d then (10, p) else (0, 0))) (k, Sp.wantS y.1 d p y.2) m c pl := by
  obtain ⟨h1, h2, h3⟩ := h
  obtain ⟨yt, yn, yc, yp⟩ := y
  obtain ⟨xt, xc, xp⟩ := x
  dsimp only at h1 h2 h3 ⊢
  subst h1
  by_cases hc : c = 0
  · obtain ⟨h4, h5⟩ := h3 hc
    subst hc
    by_cases hx : xc = 0
    · subst hx
      obtain ⟨rfl, h6⟩ := h4 rfl
      rw [Prod.mk.injEq] at h6
      obtain ⟨rfl, rfl⟩ := h6
      rw [wantS_z hd, show ((0 : Int) != 0) = false from rfl, cond_false]
      cases Sp.isOf yt d with
      | true => exact ⟨rfl, fun hn => absurd rfl hn, fun _ => ⟨fun _ => ⟨rfl, rfl⟩, fun hn => absurd rfl hn⟩⟩
      | false => exact ⟨rfl, fun hn => absurd rfl hn, fun _ => ⟨fun hn => absurd hn (by decide : ¬ (10 : Int) = 0), fun _ => rfl⟩⟩
    · have h6 := h5 hx
      rw [Prod.mk.injEq] at h6
      obtain ⟨rfl, rfl⟩ := h6
      rw [wantS_ne (s := (yn, yc, yp)) hx, show (yc != 0) = true by rw [bne, beq_false_of_ne hx]; rfl, cond_true]
      exact ⟨rfl, fun hn => absurd rfl hn, fun _ => ⟨fun hn => absurd hn hx, fun _ => rfl⟩⟩
  · have h6 := h2 hc
    rw [Prod.mk.injEq] at h6
    obtain ⟨rfl, rfl⟩ := h6
    rw [wantS_ne (s := (yn, yc, yp)) hc]
    exact ⟨rfl, fun _ => rfl, fun hn => absurd hn hc⟩
theorem any_ty {x : Int × Int × Int} {y : Int × SC} {m c pl : Int} (h : TyR x y m c pl) (k : Int) : TyR (bif x.2.1 != 0 then (0, x.2) else (k, 0, 0)) (k, y.2) m c pl := by
  obtain ⟨h1, h2, h3⟩ := h
  refine ⟨h1, h2, fun hc => ?_⟩
  obtain ⟨h4, h5⟩ := h3 hc
  by_cases hx : x.2.1 = 0
  · rw [show (x.2.1 != 0) = false by rw [hx]; rfl, cond_false]
    exact ⟨fun _ => ⟨rfl, (h4 hx).2⟩, fun hn => absurd rfl hn⟩
  · rw [show (x.2.1 != 0) = true by rw [bne, beq_false_of_ne hx]; rfl, cond_true]
    exact ⟨fun hn => absurd hn hx, h5⟩
theorem two_ty {x w : Int × Int × Int} {y z : Int × SC} {m1 m c pl : Int} (h : TyR x y m1 c pl) (hz : TyR w z m y.2.2.1 y.2.2.2) (F : Int → Int → Int × Int × Int) (G : Int → Int → SC → Int × SC)
    (hne : ∀ a b s, s.2.1 ≠ 0 → (G a b s).2 = s) (hF : ∀ a b, TyR (F a b) (G a b (m, 0, pl)) m 0 pl) :
    TyR (bif x.2.1 != 0 then (0, x.2) else bif w.2.1 != 0 then (0, w.2) else F x.1 w.1) (G y.1 z.1 z.2) m c pl := by
  obtain ⟨h1, h2, h3⟩ := h
  obtain ⟨z1, z2, z3⟩ := hz
  obtain ⟨yt, yn, yc, yp⟩ := y
  obtain ⟨zt, zn, zc, zp⟩ := z
  obtain ⟨xt, xc, xp⟩ := x
  obtain ⟨wt, wc, wp⟩ := w
  dsimp only at h1 h2 h3 z1 z2 z3 ⊢
  subst h1 z1
  by_cases hc : c = 0
  · obtain ⟨h4, h5⟩ := h3 hc
    subst hc
    by_cases hx : xc = 0
    · subst hx
      obtain ⟨rfl, h6⟩ := h4 rfl
      rw [Prod.mk.injEq] at h6
      obtain ⟨rfl, rfl⟩ := h6
      obtain ⟨z4, z5⟩ := z3 rfl
      rw [show ((0 : Int) != 0) = false from rfl, cond_false]
      by_cases hw : wc = 0
      · subst hw
        obtain ⟨rfl, h7⟩ := z4 rfl
        rw [Prod.mk.injEq] at h7
        obtain ⟨rfl, rfl⟩ := h7
        rw [show ((0 : Int) != 0) = false from rfl, cond_false]
        exact hF _ _
      · have h7 := z5 hw
        rw [Prod.mk.injEq] at h7
        obtain ⟨rfl, rfl⟩ := h7
        rw [show (zc != 0) = true by rw [bne, beq_false_of_ne hw]; rfl, cond_true]
        have := hne yt zt (zn, zc, zp) hw
        refine ⟨by rw [this], fun hn => absurd rfl hn, fun _ => ⟨fun hn => absurd hn hw, fun _ => by rw [this]⟩⟩
    · have h6 := h5 hx
      rw [Prod.mk.injEq] at h6
      obtain ⟨rfl, rfl⟩ := h6
      have h7 := z2 hx
      rw [Prod.mk.injEq] at h7
      obtain ⟨rfl, rfl⟩ := h7
      rw [show (zc != 0) = true by rw [bne, beq_false_of_ne hx]; rfl, cond_true]
      have := hne yt zt (zn, zc, zp) hx
      exact ⟨by rw [this], fun hn => absurd rfl hn, fun _ => ⟨fun hn => absurd hn hx, fun _ => by rw [this]⟩⟩
  · have h6 := h2 hc
    rw [Prod.mk.injEq] at h6
    obtain ⟨rfl, rfl⟩ := h6
    have h7 := z2 hc
    rw [Prod.mk.injEq] at h7
    obtain ⟨rfl, rfl⟩ := h7
    have := hne yt zt (zn, zc, zp) hc
    exact ⟨by rw [this], fun _ => by rw [this], fun hn => absurd hn hc⟩
theorem fail_ty {k t code p m c pl : Int} (hn : code ≠ 0) : TyR (k, code, p) (t, Sp.failS code p (m, c, pl)) m c pl := by
  unfold Sp.failS
  by_cases hc : c = 0
  · subst hc
    exact ⟨rfl, fun h => absurd rfl h, fun _ => ⟨fun h => absurd h hn, fun _ => rfl⟩⟩
  · dsimp only
    rw [beq_false_of_ne hc]
    exact ⟨rfl, fun _ => rfl, fun h => absurd h hc⟩
theorem ok_ty {t m c pl : Int} : TyR (t, 0, 0) (t, (m, c, pl)) m c pl :=
  ⟨rfl, fun _ => rfl, fun h => ⟨fun _ => ⟨rfl, by rw [h]⟩, fun h => absurd rfl h⟩⟩
theorem one_I (E : VTy) (a : VA) (r : RT) (p : Int) (g h : Bool) :
    (bif (Sp.tysI E [r] (p + 1) h).2.1 != 0 then (0, (Sp.tysI E [r] (p + 1) h).2) else Sp.nodeI E a (Sp.tysI E [r] (p + 1) h).1 [r] p g) =
    bif (Sp.tyI E r (p + 1) h).2.1 != 0 then (0, (Sp.tyI E r (p + 1) h).2) else Sp.nodeI E a [(Sp.tyI E r (p + 1) h).1] [r] p g := by
  rw [Sp.tysI, Sp.tysI]
  cases hx : (Sp.tyI E r (p + 1) h).2.1 != 0 with
  | true => rw [cond_true, cond_true, hx, cond_true]
  | false => rw [cond_false, cond_false]; rfl
theorem two_I (E : VTy) (a : VA) (r s : RT) (p : Int) (g h : Bool) :
    (bif (Sp.tysI E [r, s] (p + 1) h).2.1 != 0 then (0, (Sp.tysI E [r, s] (p + 1) h).2) else Sp.nodeI E a (Sp.tysI E [r, s] (p + 1) h).1 [r, s] p g) =
    bif (Sp.tyI E r (p + 1) h).2.1 != 0 then (0, (Sp.tyI E r (p + 1) h).2) else bif (Sp.tyI E s (p + 1 + (Sp.cntT r : Int)) h).2.1 != 0 then (0, (Sp.tyI E s (p + 1 + (Sp.cntT r : Int)) h).2)
      else Sp.nodeI E a [(Sp.tyI E r (p + 1) h).1, (Sp.tyI E s (p + 1 + (Sp.cntT r : Int)) h).1] [r, s] p g := by
  rw [Sp.tysI, Sp.tysI, Sp.tysI]
  cases hx : (Sp.tyI E r (p + 1) h).2.1 != 0 with
  | true => rw [cond_true, cond_true, hx, cond_true]
  | false =>
    rw [cond_false, cond_false]
    cases hy : (Sp.tyI E s (p + 1 + (Sp.cntT r : Int)) h).2.1 != 0 with
    | true => rw [cond_true, cond_true]; dsimp only; rw [hy, cond_true]
    | false => rw [cond_false, cond_false]; rfl
theorem col_ty (E : VTy) (of name : ByteArray) (g : Bool) {n c pl : Int} (hs : Sp.stepS (n, c, pl) = (n + 1, c, pl)) : TyR (Sp.colI E of name n g) (Sp.colS E of name g (n, c, pl)) (n + 1) c pl := by
  unfold Sp.colI Sp.colS
  rw [hs]
  by_cases hq : (Sp.findF E.1 of name).2 = 0
  · rw [show ((Sp.findF E.1 of name).2 != 0) = false by rw [hq]; rfl, cond_false, cond_false]
    cases bif E.2.1 then bif !g then !Sp.hasI E.2.2 (Sp.findF E.1 of name).1 else false else false with
    | true => rw [cond_true, cond_true]; exact fail_ty (by decide)
    | false => rw [cond_false, cond_false]; exact ok_ty
  · rw [show ((Sp.findF E.1 of name).2 != 0) = true by rw [bne, beq_false_of_ne hq]; rfl, cond_true, cond_true]
    exact fail_ty hq
theorem both_ty (m pl p q k d a b : Int) (hd : d ≠ 0) : TyR (bif (bif !Sp.isOf a d then ((10 : Int), p) else (0, 0)).1 != 0 then (0, bif !Sp.isOf a d then (10, p) else (0, 0)) else (k, bif !Sp.isOf b d then (10, q) else (0, 0))) (k, Sp.wantS b d q (Sp.wantS a d p (m, 0, pl))) m 0 pl := by
  rw [wantS_z hd]
  cases Sp.isOf a d with
  | false =>
    have e : Sp.wantS b d q (m, 10, p) = (m, 10, p) := wantS_ne (s := (m, 10, p)) (show (10 : Int) ≠ 0 by decide)
    show TyR (0, 10, p) (k, Sp.wantS b d q (m, 10, p)) m 0 pl
    rw [e]
    exact ⟨rfl, fun h => absurd rfl h, fun _ => ⟨fun h => absurd h (by decide : ¬ (10 : Int) = 0), fun _ => rfl⟩⟩
  | true =>
    show TyR (k, bif !Sp.isOf b d then (10, q) else (0, 0)) (k, Sp.wantS b d q (m, 0, pl)) m 0 pl
    rw [wantS_z hd]
    cases Sp.isOf b d with
    | false => exact ⟨rfl, fun h => absurd rfl h, fun _ => ⟨fun h => absurd h (by decide : ¬ (10 : Int) = 0), fun _ => rfl⟩⟩
    | true => exact ok_ty
theorem four_ty (m pl q a b : Int) : TyR (bif a == 0 then (1, 0, 0) else (1, bif !Sp.isOf b a then (10, q) else (0, 0))) (1, Sp.wantS b a q (m, 0, pl)) m 0 pl := by
  by_cases ha : a = 0
  · subst ha
    have e : Sp.wantS b 0 q (m, 0, pl) = (m, 0, pl) := by unfold Sp.wantS; cases b != 0 <;> rfl
    rw [e]
    exact ok_ty
  · rw [wantS_z ha, beq_false_of_ne ha, cond_false]
    cases Sp.isOf b a with
    | false => exact ⟨rfl, fun h => absurd rfl h, fun _ => ⟨fun h => absurd h (by decide : ¬ (10 : Int) = 0), fun _ => rfl⟩⟩
    | true => exact ok_ty
theorem ty_eq (E : VTy) : ∀ (r : RT) (b : Bool), Sp.lT r b = true → ∀ (g : Bool) (n c pl : Int), 0 ≤ n → n + (Sp.cntT r : Int) ≤ 1000000 → TyR (Sp.tyI E r n g) (Sp.tyS E r g (n, c, pl)) (n + (Sp.cntT r : Int)) c pl :=
  Rose.ind fun a ks ih b hb g n c pl h0 h1 => by
    have hs : ∀ c pl, Sp.stepS (n, c, pl) = (n + 1, c, pl) := fun c pl => by
      have e : Sp.succL n = n + 1 := wrap64 (by omega) (by omega)
      unfold Sp.stepS
      rw [e]
    have hk := cnt_kids (Rose.mk a ks)
    have ek : Sp.cntTs (Rose.mk a ks).kids = Sp.cntTs ks := rfl
    rw [ek] at hk
    rw [← hk] at h1 ⊢
    rw [tyS_mk, Sp.tyI]
    rcases arity a ks b hb with ⟨hl, rfl⟩ | ⟨h5, r, rfl, hr⟩ | ⟨h7, h⟩ | ⟨h6, hp, r, s, rfl, hr, hs2⟩
    · rw [show Sp.cntTs [] = 0 by rw [Sp.cntTs], Sp.tysI]
      show TyR (Sp.nodeI E a [] [] n g) (Sp.nodeS E a [] g (n, c, pl)) (n + 1) c pl
      unfold Sp.nodeI Sp.nodeS
      rcases hl with h3 | h4
      · rw [h3, hs]
        exact ok_ty
      · rw [h4]
        exact col_ty E _ _ g (hs c pl)
    · rw [one_I, show (bif g then true else a.1 == 17) = g by rw [h5]; cases g <;> rfl]
      have hc : Sp.cntTs [r] = Sp.cntT r := by rw [Sp.cntTs, Sp.cntTs, Nat.add_zero]
      rw [hc] at h1 ⊢
      have hi := ih r (List.mem_cons_self) b hr g (n + 1) c pl (by omega) (by omega)
      have em : n + ((1 + Sp.cntT r : Nat) : Int) = n + 1 + (Sp.cntT r : Int) := by omega
      rw [em]
      unfold Sp.nodeI Sp.nodeS
      rw [h5, hs]
      simp only [show ((15 : Int) == 13) = false from rfl, show ((15 : Int) == 14) = false from rfl, show ((15 : Int) == 15) = true from rfl, show ((15 : Int) == 17) = false from rfl, cond_true, cond_false, List.map_cons, List.getD_cons_zero]
      unfold Sp.wantI
      rw [kid0]
      cases Sp.isW #[45] a.2.2.1 with
      | true => exact one_ty hi [r] (n + 1) 2 2 (by decide)
      | false =>
        rw [cond_false, cond_false]
        cases Sp.isW #[110, 111, 116] a.2.2.1 with
        | true => exact one_ty hi [r] (n + 1) 1 1 (by decide)
        | false => exact any_ty hi 1
    · rw [show (bif g then true else a.1 == 17) = true by rw [h7]; cases g <;> rfl]
      rcases h with ⟨rfl, hw⟩ | ⟨r, rfl, hr⟩
      · rw [show Sp.cntTs [] = 0 by rw [Sp.cntTs], Sp.tysI]
        show TyR (Sp.nodeI E a [] [] n g) (Sp.nodeS E a [] g (n, c, pl)) (n + 1) c pl
        unfold Sp.nodeI Sp.nodeS
        rw [h7, hs, hw]
        exact ok_ty
      · rw [one_I]
        have hc : Sp.cntTs [r] = Sp.cntT r := by rw [Sp.cntTs, Sp.cntTs, Nat.add_zero]
        rw [hc] at h1 ⊢
        have hi := ih r (List.mem_cons_self) false hr true (n + 1) c pl (by omega) (by omega)
        have em : n + ((1 + Sp.cntT r : Nat) : Int) = n + 1 + (Sp.cntT r : Int) := by omega
        rw [em]
        unfold Sp.nodeI Sp.nodeS
        rw [h7, hs]
        simp only [show ((17 : Int) == 13) = false from rfl, show ((17 : Int) == 14) = false from rfl, show ((17 : Int) == 15) = false from rfl, show ((17 : Int) == 17) = true from rfl, cond_true, cond_false, List.map_cons, List.getD_cons_zero, List.map_nil, List.length_cons, List.length_nil, show (((0 + 1 : Nat) : Int) == 0) = false from rfl]
        unfold Sp.wantI
        rw [kid0]
        cases Sp.isW #[99, 111, 117, 110, 116] a.2.2.1 with
        | true => exact any_ty hi 2
        | false =>
          rw [cond_false, cond_false]
          cases Sp.isW #[115, 117, 109] a.2.2.1 with
          | true => exact one_ty hi [r] (n + 1) 2 2 (by decide)
          | false =>
            rw [cond_false, cond_false]
            obtain ⟨q1, q2, q3⟩ := hi
            refine ⟨q1, q2, fun hc => ?_⟩
            obtain ⟨q4, q5⟩ := q3 hc
            by_cases hx : (Sp.tyI E r (n + 1) true).2.1 = 0
            · rw [show ((Sp.tyI E r (n + 1) true).2.1 != 0) = false by rw [hx]; rfl, cond_false]
              exact ⟨fun _ => q4 hx, fun hn => absurd rfl hn⟩
            · rw [show ((Sp.tyI E r (n + 1) true).2.1 != 0) = true by rw [bne, beq_false_of_ne hx]; rfl, cond_true]
              exact ⟨fun hn => absurd hn hx, q5⟩
    · rw [two_I, show (bif g then true else a.1 == 17) = g by rw [h6]; cases g <;> rfl]
      have hc : Sp.cntTs [r, s] = Sp.cntT r + Sp.cntT s := by rw [Sp.cntTs, Sp.cntTs, Sp.cntTs, Nat.add_zero]
      rw [hc] at h1 ⊢
      have hi := ih r (List.mem_cons_self) b hr g (n + 1) c pl (by omega) (by omega)
      have em : n + ((1 + (Sp.cntT r + Sp.cntT s) : Nat) : Int) = n + 1 + (Sp.cntT r : Int) + (Sp.cntT s : Int) := by omega
      rw [em]
      rcases hy : Sp.tyS E r g (n + 1, c, pl) with ⟨yt, yn, yc, yp⟩
      have hyn : yn = n + 1 + (Sp.cntT r : Int) := by have := hi.1; rw [hy] at this; exact this
      subst hyn
      have hj := ih s (List.mem_cons_of_mem _ (List.mem_cons_self)) b hs2 g (n + 1 + (Sp.cntT r : Int)) yc yp (by omega) (by omega)
      unfold Sp.nodeI Sp.nodeS
      rw [h6, hs]
      simp only [show ((16 : Int) == 13) = false from rfl, show ((16 : Int) == 14) = false from rfl, show ((16 : Int) == 15) = false from rfl, show ((16 : Int) == 17) = false from rfl, cond_false, List.map_cons, List.getD_cons_zero, List.getD_cons_succ]
      rw [hy] at hi ⊢
      obtain ⟨hv, hl⟩ := lev5 a.2.2.1 hp
      rw [hv]
      unfold Sp.binI Sp.wantI
      rw [kid0, kid1]
      have hne2 : ∀ (d p q a b : Int) (s : SC), s.2.1 ≠ 0 → Sp.wantS b d q (Sp.wantS a d p s) = s := fun d p q a b s hs => by rw [wantS_ne hs, wantS_ne hs]
      rcases hl with hl | hl | hl | hl | hl <;> rw [hl]
      · exact two_ty hi hj (fun x w => bif (bif !Sp.isOf x 1 then ((10 : Int), n + 1) else (0, 0)).1 != 0 then (0, bif !Sp.isOf x 1 then (10, n + 1) else (0, 0)) else (1, bif !Sp.isOf w 1 then (10, n + 1 + (Sp.cntT r : Int)) else (0, 0)))
          (fun a b s => (1, Sp.wantS b 1 (n + 1 + (Sp.cntT r : Int)) (Sp.wantS a 1 (n + 1) s))) (fun a b s hs => hne2 1 _ _ a b s hs) (fun a b => both_ty _ pl _ _ 1 1 a b (by decide))
      · exact two_ty hi hj (fun x w => bif (bif !Sp.isOf x 1 then ((10 : Int), n + 1) else (0, 0)).1 != 0 then (0, bif !Sp.isOf x 1 then (10, n + 1) else (0, 0)) else (1, bif !Sp.isOf w 1 then (10, n + 1 + (Sp.cntT r : Int)) else (0, 0)))
          (fun a b s => (1, Sp.wantS b 1 (n + 1 + (Sp.cntT r : Int)) (Sp.wantS a 1 (n + 1) s))) (fun a b s hs => hne2 1 _ _ a b s hs) (fun a b => both_ty _ pl _ _ 1 1 a b (by decide))
      · exact two_ty hi hj (fun x w => bif x == 0 then (1, 0, 0) else (1, bif !Sp.isOf w x then (10, n + 1 + (Sp.cntT r : Int)) else (0, 0)))
          (fun a b s => (1, Sp.wantS b a (n + 1 + (Sp.cntT r : Int)) s)) (fun a b s hs => wantS_ne hs) (fun a b => four_ty _ pl _ a b)
      · exact two_ty hi hj (fun x w => bif (bif !Sp.isOf x 2 then ((10 : Int), n + 1) else (0, 0)).1 != 0 then (0, bif !Sp.isOf x 2 then (10, n + 1) else (0, 0)) else (2, bif !Sp.isOf w 2 then (10, n + 1 + (Sp.cntT r : Int)) else (0, 0)))
          (fun a b s => (2, Sp.wantS b 2 (n + 1 + (Sp.cntT r : Int)) (Sp.wantS a 2 (n + 1) s))) (fun a b s hs => hne2 2 _ _ a b s hs) (fun a b => both_ty _ pl _ _ 2 2 a b (by decide))
      · exact two_ty hi hj (fun x w => bif (bif !Sp.isOf x 2 then ((10 : Int), n + 1) else (0, 0)).1 != 0 then (0, bif !Sp.isOf x 2 then (10, n + 1) else (0, 0)) else (2, bif !Sp.isOf w 2 then (10, n + 1 + (Sp.cntT r : Int)) else (0, 0)))
          (fun a b s => (2, Sp.wantS b 2 (n + 1 + (Sp.cntT r : Int)) (Sp.wantS a 2 (n + 1) s))) (fun a b s hs => hne2 2 _ _ a b s hs) (fun a b => both_ty _ pl _ _ 2 2 a b (by decide))
abbrev r2 (p : Int × Int) : Res := Res.mk [ZX Zi p.1, ZX Zi p.2] []
theorem find_loop {p : VF → Bool} (xs : List VF) (F : Nat → Int → Int → Option Res)
    (h0 : ∀ (m : Nat) (c : Int) (k : Nat), xs.length ≤ k → F (m + 1) c k = bif decide (c < 0) then some (r2 (0, 11)) else some (r2 (c, 0)))
    (h1 : ∀ (m : Nat) (c : Int) (k : Nat) (h : k < xs.length), F (m + 1) c k = bif p xs[k] then (bif decide (c ≥ 0) then some (r2 (0, 9)) else F m k ((k + 1 : Nat) : Int)) else F m c ((k + 1 : Nat) : Int)) :
    ∀ (d k m : Nat) (c : Int), k + d = xs.length → d < m → F m c k = some (r2 (Sp.fFind p (xs.drop k) k c)) := by
  intro d
  induction d with
  | zero =>
    intro k m c hk hm
    obtain ⟨m, rfl⟩ := succ_of hm
    rw [h0 m c k (by omega), List.drop_eq_nil_of_le (by omega), Sp.fFind]
    cases decide (c < 0) <;> rfl
  | succ d ih =>
    intro k m c hk hm
    obtain ⟨m, rfl⟩ := succ_of hm
    have h : k < xs.length := by omega
    rw [h1 m c k h, List.drop_eq_getElem_cons h, Sp.fFind]
    cases p xs[k] with
    | true =>
      rw [cond_true, cond_true]
      cases decide (c ≥ 0) with
      | true => rfl
      | false =>
        rw [cond_false, cond_false]
        exact ih (k + 1) m k (by omega) (by omega)
    | false =>
      rw [cond_false, cond_false]
      exact ih (k + 1) m c (by omega) (by omega)
theorem fFind_lt (p : VF → Bool) (N : Int) : ∀ (l : List VF) (i c : Int), 0 ≤ i → i + (l.length : Int) = N → c < i → (Sp.fFind p l i c).2 = 0 → 0 ≤ (Sp.fFind p l i c).1 ∧ (Sp.fFind p l i c).1 < N
  | [], i, c, h0, h1, h2, h => by
    rw [Sp.fFind] at h ⊢
    by_cases hc : c < 0
    · rw [decide_eq_true hc, cond_true] at h
      cases h
    · rw [decide_eq_false hc, cond_false]
      rw [List.length_nil] at h1
      exact ⟨by omega, by show c < N; omega⟩
  | f :: l, i, c, h0, h1, h2, h => by
    rw [List.length_cons] at h1
    rw [Sp.fFind] at h ⊢
    cases hp : p f with
    | true =>
      rw [hp, cond_true] at h
      rw [cond_true]
      by_cases hc : c ≥ 0
      · rw [decide_eq_true hc, cond_true] at h
        cases h
      · rw [decide_eq_false hc, cond_false] at h ⊢
        exact fFind_lt p N l (i + 1) i (by omega) (by omega) (by omega) h
    | false =>
      rw [hp, cond_false] at h
      rw [cond_false]
      exact fFind_lt p N l (i + 1) c (by omega) (by omega) (by omega) h
theorem findF_lt {sc : List VF} {of name : ByteArray} (h : (Sp.findF sc of name).2 = 0) : 0 ≤ (Sp.findF sc of name).1 ∧ (Sp.findF sc of name).1 < (sc.length : Int) :=
  fFind_lt _ _ sc 0 (-1) (Int.le_refl 0) (by omega) (by omega) h
mutual
def Sp.aggT : RT → Bool
  | .mk a ks => bif a.1 == 17 then true else Sp.aggTs ks
def Sp.aggTs : List RT → Bool
  | [] => false
  | r :: l => bif Sp.aggT r then true else Sp.aggTs l
end
theorem aggTs_any : ∀ l : List RT, Sp.anyW Sp.aggT l = Sp.aggTs l
  | [] => by rw [Sp.aggTs]; rfl
  | r :: l => by rw [Sp.aggTs, Sp.anyW, aggTs_any l]
mutual
def Sp.arT : RT → Bool
  | .mk a ks => bif Sp.arTs ks then (bif a.1 == 13 then true else bif a.1 == 14 then true else bif a.1 == 15 then Nat.ble 1 ks.length else bif a.1 == 17 then (bif Sp.isW #[99, 111, 117, 110, 116] a.2.2.1 then true else Nat.ble 1 ks.length) else Nat.ble 2 ks.length) else false
def Sp.arTs : List RT → Bool
  | [] => true
  | r :: l => bif Sp.arT r then Sp.arTs l else false
end
theorem ar_of : ∀ (r : RT) (b : Bool), Sp.lT r b = true → Sp.arT r = true :=
  Rose.ind fun a ks ih b hb => by
    rw [Sp.arT]
    rcases arity a ks b hb with ⟨hl, rfl⟩ | ⟨h5, r, rfl, hr⟩ | ⟨h7, h⟩ | ⟨h6, hp, r, s, rfl, hr, hs⟩
    · rw [Sp.arTs, cond_true]
      rcases hl with h | h <;> rw [h] <;> rfl
    · rw [Sp.arTs, ih r (List.mem_cons_self) b hr, Sp.arTs, h5]
      rfl
    · rcases h with ⟨rfl, hw⟩ | ⟨r, rfl, hr⟩
      · rw [Sp.arTs, hw, h7]
        rfl
      · rw [Sp.arTs, ih r (List.mem_cons_self) false hr, Sp.arTs, h7]
        show (bif Sp.isW #[99, 111, 117, 110, 116] a.2.2.1 then true else true) = true
        cases Sp.isW #[99, 111, 117, 110, 116] a.2.2.1 <;> rfl
    · rw [Sp.arTs, ih r (List.mem_cons_self) b hr, Sp.arTs, ih s (List.mem_cons_of_mem _ (List.mem_cons_self)) b hs, Sp.arTs, h6]
      rfl
end Go.Proofs.GR.T

