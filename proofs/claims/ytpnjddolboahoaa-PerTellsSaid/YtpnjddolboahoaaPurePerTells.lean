/- Parts and ratios are the reference's: for all numbers up to 2^33 and parts up to all. -/
import Derived.Test.YtpnjddolboahoaaPPerTellsx2
import Derived.Test.YtpnjddolboahoaaMath
namespace Go.Proofs.Ytpnjddolboahoaa.Pure
open Go.RowKit Go.Proofs.Ytpnjddolboahoaa.PPerTells Go.Proofs.YtpnjddolboahoaaW.PrintWords Go.Proofs.YtpnjddolboahoaaW.PrintLast Go.Proofs.Ytpnjddolboahoaa.Math
set_option linter.unusedVariables false

namespace PerTells
theorem eIn : althinglaw4_in.f = pIn := rfl
theorem ePart : per_Part.f = pPart := rfl
theorem erPart : althingref4_Part.f = rPart := rfl
theorem eRatio : per_Ratio.f = pRatio := rfl
theorem erRatio : althingref4_Ratio.f = rRatio := rfl
theorem eHeld : per_held.f = pHeld := rfl
theorem eAt : per_At.f = pAt := rfl
theorem eIsIn : per_isIn.f = pIsIn := rfl
theorem known_ok (k : Nat) : althinglaw4_known.f (k + 1) = some true := by kernel_rfl
end PerTells
open PerTells

theorem PerTells : althinglaw4_PerTells.Pure := by
  intro n p a b _ _ _ _
  refine ⟨0 + 1 + 1, ?_⟩
  unfold althinglaw4_PerTells.f
  rw [eIn, pIn_eq, Option.bind_some]
  by_cases h0 : 0 ≤ n ∧ n ≤ 8589934592
  · rw [if_pos (decide_eq_true h0), pIn_eq, Option.bind_some]
    by_cases h1 : 0 ≤ p ∧ p ≤ 1000000000
    · rw [if_pos (decide_eq_true h1), pIn_eq, Option.bind_some]
      by_cases h2 : 0 ≤ a ∧ a ≤ 8589934592
      · rw [if_pos (decide_eq_true h2), pIn_eq, Option.bind_some]
        by_cases h3 : 0 ≤ b ∧ b ≤ 8589934592
        · rw [decide_eq_true h3]
          obtain ⟨n0, n1⟩ := h0
          obtain ⟨p0, p1⟩ := h1
          obtain ⟨a0, a1⟩ := h2
          obtain ⟨b0, b1⟩ := h3
          simp only [althinglaw4_PerTells.j0]
          rw [if_neg (by simp), ePart, erPart, eRatio, erRatio, part_down n0 n1 p0 p1, Option.bind_some, rpart_down n0 n1 p0 p1, Option.bind_some, if_pos rfl,
            part_up n0 n1 p0 p1, Option.bind_some, rpart_up n0 n1 p0 p1, Option.bind_some, if_pos rfl,
            ratio a0 a1 b0, Option.bind_some, rratio a0 a1 b0, Option.bind_some, if_pos rfl, known_ok]
          rfl
        · rw [decide_eq_false h3]; rfl
      · rw [if_neg (by simp [h2])]; rfl
    · rw [if_neg (by simp [h1])]; rfl
  · rw [if_neg (by simp [h0])]; rfl

end Go.Proofs.Ytpnjddolboahoaa.Pure
