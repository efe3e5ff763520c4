/- All of a number is it, nothing of it is nothing, a number is all of itself, more than all is all: for all numbers up to 2^33. -/
import Derived.Test.YtpnjddolboahoaaPPerWholex2
import Derived.Test.YtpnjddolboahoaaMath
namespace Go.Proofs.Ytpnjddolboahoaa.Pure
open Go.RowKit Go.Proofs.Ytpnjddolboahoaa.PPerWhole Go.Proofs.YtpnjddolboahoaaW.PrintWords Go.Proofs.YtpnjddolboahoaaW.PrintLast Go.Proofs.Ytpnjddolboahoaa.Math
set_option linter.unusedVariables false

namespace PerWhole
theorem eIn : althinglaw4_in.f = pIn := rfl
theorem ePart : per_Part.f = pPart := rfl
theorem eRatio : per_Ratio.f = pRatio := rfl
theorem eHeld : per_held.f = pHeld := rfl
theorem eAt : per_At.f = pAt := rfl
theorem eIsIn : per_isIn.f = pIsIn := rfl
theorem known_ok (k : Nat) : althinglaw4_known.f (k + 1) = some true := by kernel_rfl
end PerWhole
open PerWhole

theorem PerWhole : althinglaw4_PerWhole.Pure := by
  intro n m _ _
  refine ⟨0 + 1 + 1 + 1, ?_⟩
  unfold althinglaw4_PerWhole.f
  rw [eIn, pIn_eq, Option.bind_some]
  by_cases h0 : 0 ≤ n ∧ n ≤ 8589934592
  · rw [if_pos (decide_eq_true h0), pIn_eq, Option.bind_some]
    by_cases h1 : 0 ≤ m ∧ m ≤ 8589934592
    · rw [decide_eq_true h1]
      obtain ⟨n0, n1⟩ := h0
      obtain ⟨m0, m1⟩ := h1
      have key : ∀ one : Int, one = R n n → althinglaw4_PerWhole.j1 (0 + 1 + 1) n m one = some true := by
        intro one h
        have x0 : 0 ≤ mx n m ∧ mx n m ≤ 8589934592 ∧ 0 ≤ mn n m := by rw [mx_eq, mn_eq]; omega
        simp only [althinglaw4_PerWhole.j1]
        rw [ePart, eRatio, part_down n0 n1 (by omega) (by omega), Option.bind_some, Int.mul_ediv_cancel _ (by omega), if_pos rfl,
          part_up n0 n1 (by omega) (by omega), Option.bind_some, if_pos (by omega), part_up n0 n1 (by omega) (by omega), Option.bind_some, if_pos (by omega),
          ratio n0 n1 n0, Option.bind_some, if_pos h.symm, ratio n0 n1 (by omega), Option.bind_some, if_pos (R_zero n),
          ratio x0.1 x0.2.1 x0.2.2, Option.bind_some, if_pos (R_in x0.1 x0.2.2).2, known_ok]
        rfl
      simp only [althinglaw4_PerWhole.j0]
      rw [if_neg (by simp)]
      by_cases hn : n > 0
      · rw [if_pos hn]; exact key _ (R_self hn).symm
      · rw [if_neg hn]; obtain rfl : n = 0 := by omega
        exact key _ (R_zero 0).symm
    · rw [decide_eq_false h1]; rfl
  · rw [if_neg (by simp [h0])]; rfl

end Go.Proofs.Ytpnjddolboahoaa.Pure
