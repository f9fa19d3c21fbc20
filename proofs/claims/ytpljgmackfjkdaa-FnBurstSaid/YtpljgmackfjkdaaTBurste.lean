/-
  No statement is proved here: what the functions of the law answer, told as plain functions, and that the law's answer is always true.
  No condition.
-/
import Derived.Test.YtpljgmackfjkdaaTBurstd
set_option maxRecDepth 3000000
set_option maxHeartbeats 100000000
namespace Go.Proofs.GR.T
open Go Go.Proofs Go.Proofs.GR
theorem yes2Q {a b : Bool} (h : a = true) (h2 : b = true) : yes2 a b = true := by rw [h, h2]; rfl
theorem chkQ {ρ : Type} {b : Bool} (h : b = true) (k : Option ρ) : chk b k = k := by rw [h]; rfl
def Sp.vN (v : V3) : Bool := yes2 (Sp.vOK v) (yes2 (decide (-9223372036854775808 ≤ v.2.1)) (decide (v.2.1 < 9223372036854775808)))
theorem vN_is {v : V3} (h : Sp.vN v = true) : Sp.vOK v = true ∧ okN v := by
  obtain ⟨h1, h2⟩ := yes2_true h
  obtain ⟨h2, h3⟩ := yes2_true h2
  exact ⟨h1, of_decide_eq_true h2, of_decide_eq_true h3⟩
theorem size_60 {v : V3} (h : Sp.vOK v = true) (hk : v.1 = 3 ∨ v.1 = 4) : v.2.2.size ≤ 60 := by
  unfold Sp.vOK Sp.f136 at h
  rcases hk with hk | hk
  · rw [hk] at h
    cases hn : v.2.1 == 0 with
    | false => rw [hn] at h; cases h
    | true =>
      rw [hn] at h
      have : decide ((v.2.2.size : Int) ≤ 60) = true := h
      have := of_decide_eq_true this
      omega
  · rw [hk] at h
    cases hn : v.2.1 == 0 with
    | false => rw [hn] at h; cases h
    | true =>
      rw [hn] at h
      have : decide ((v.2.2.size : Int) ≤ 60) = true := h
      have := of_decide_eq_true this
      omega
theorem room {n : Nat} (h : n ≤ 140737488355328) : decide (n * 1 ≤ 140737488355328) = true := decide_eq_true (by omega)
end Go.Proofs.GR.T

