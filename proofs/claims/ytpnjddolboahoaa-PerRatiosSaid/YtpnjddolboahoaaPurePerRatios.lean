/- A ratio is at least a threshold just where it is by whole numbers: for all numbers up to 2^33 and thresholds up to all. -/
import Derived.Test.YtpnjddolboahoaaPPerRatiosx2
import Derived.Test.YtpnjddolboahoaaMath
namespace Go.Proofs.Ytpnjddolboahoaa.Pure
open Go.RowKit Go.Proofs.Ytpnjddolboahoaa.PPerRatios Go.Proofs.YtpnjddolboahoaaW.PrintWords Go.Proofs.YtpnjddolboahoaaW.PrintLast Go.Proofs.Ytpnjddolboahoaa.Math
set_option linter.unusedVariables false

namespace PerRatios
theorem eIn : althinglaw4_in.f = pIn := rfl
theorem ePart : per_Part.f = pPart := rfl
theorem eRatio : per_Ratio.f = pRatio := rfl
theorem eHeld : per_held.f = pHeld := rfl
theorem eAt : per_At.f = pAt := rfl
theorem eIsIn : per_isIn.f = pIsIn := rfl
theorem known_ok (k : Nat) : althinglaw4_known.f (k + 1) = some true := by kernel_rfl
end PerRatios
open PerRatios

theorem PerRatios : althinglaw4_PerRatios.Pure := by
  intro a b t _ _ _
  refine ⟨0 + 1 + 1, ?_⟩
  unfold althinglaw4_PerRatios.f
  rw [eIn, pIn_eq, Option.bind_some]
  by_cases h0 : 0 ≤ a ∧ a ≤ 8589934592
  · rw [if_pos (decide_eq_true h0), pIn_eq, Option.bind_some]
    by_cases h1 : 0 ≤ b ∧ b ≤ 8589934592
    · rw [if_pos (decide_eq_true h1), pIn_eq, Option.bind_some]
      by_cases h2 : 0 ≤ t ∧ t ≤ 1000000000
      · rw [if_pos (decide_eq_true h2)]
        obtain ⟨a0, a1⟩ := h0
        obtain ⟨b0, b1⟩ := h1
        obtain ⟨t0, t1⟩ := h2
        by_cases hb : b = 0
        · subst hb; rfl
        · have q := mulb t0 t1 b0 b1
          simp only [althinglaw4_PerRatios.j0]
          rw [if_neg (by simp [hb]), eRatio, ratio a0 a1 b0, Option.bind_some, w64 (by omega) (by omega), w64 (by omega) (by omega), if_pos, known_ok]
          · rfl
          · rw [beq_iff_eq, decide_eq_decide]
            exact R_ge (by omega) t1
      · rw [if_neg (by simp [h2])]; rfl
    · rw [if_neg (by simp [h1])]; rfl
  · rw [if_neg (by simp [h0])]; rfl

end Go.Proofs.Ytpnjddolboahoaa.Pure
