/- A part rounded down and what is left rounded up are the number; rounded up is at most one more than rounded down: for every number up to 2^33 and every part up to all. -/
import Derived.Test.YtpnjddolboahoaaPPerPartsx2
import Derived.Test.YtpnjddolboahoaaMath
namespace Go.Proofs.Ytpnjddolboahoaa.Pure
open Go.RowKit Go.Proofs.Ytpnjddolboahoaa.PPerParts Go.Proofs.YtpnjddolboahoaaW.PrintWords Go.Proofs.YtpnjddolboahoaaW.PrintLast Go.Proofs.Ytpnjddolboahoaa.Math
set_option linter.unusedVariables false

namespace PerParts
theorem eIn : althinglaw4_in.f = pIn := rfl
theorem ePart : per_Part.f = pPart := rfl
theorem eRatio : per_Ratio.f = pRatio := rfl
theorem eHeld : per_held.f = pHeld := rfl
theorem eAt : per_At.f = pAt := rfl
theorem eIsIn : per_isIn.f = pIsIn := rfl
theorem known_ok (k : Nat) : althinglaw4_known.f (k + 1) = some true := by kernel_rfl
end PerParts
open PerParts

theorem PerParts : althinglaw4_PerParts.Pure := by
  intro n p _ _
  refine ⟨0 + 1 + 1, ?_⟩
  unfold althinglaw4_PerParts.f
  rw [eIn, pIn_eq, Option.bind_some]
  by_cases h0 : 0 ≤ n ∧ n ≤ 8589934592
  · rw [if_pos (decide_eq_true h0), pIn_eq, Option.bind_some]
    by_cases h1 : 0 ≤ p ∧ p ≤ 1000000000
    · rw [decide_eq_true h1]
      obtain ⟨n0, n1⟩ := h0
      obtain ⟨p0, p1⟩ := h1
      obtain ⟨e, u0, u1, d0, u2⟩ := parts n0 p0 p1
      have q := mulb n0 n1 p0 p1
      simp only [althinglaw4_PerParts.j0]
      rw [if_neg (by simp), ePart, part_down n0 n1 p0 p1, Option.bind_some, w64 (n := 1000000000 - p) (by omega) (by omega),
        part_up n0 n1 (p := 1000000000 - p) (by omega) (by omega), Option.bind_some, part_up n0 n1 p0 p1, Option.bind_some,
        e, w64 (by omega) (by omega), if_pos rfl, if_pos u0, w64 (by omega) (by omega), if_pos u1, if_pos d0, if_pos u2, known_ok]
      rfl
    · rw [decide_eq_false h1]; rfl
  · rw [if_neg (by simp [h0])]; rfl

end Go.Proofs.Ytpnjddolboahoaa.Pure
