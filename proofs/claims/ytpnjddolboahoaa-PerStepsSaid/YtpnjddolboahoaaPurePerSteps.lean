/- A stepped curve stays within each step and falls by one step at each, down to its end: for every such curve and up to 50 steps. -/
import Derived.Test.YtpnjddolboahoaaPPerStepsx3
import Derived.Test.YtpnjddolboahoaaMath
namespace Go.Proofs.Ytpnjddolboahoaa.Pure
open Go.RowKit Go.Proofs.Ytpnjddolboahoaa.PPerSteps Go.Proofs.YtpnjddolboahoaaW.PrintWords Go.Proofs.YtpnjddolboahoaaW.PrintLast Go.Proofs.Ytpnjddolboahoaa.Math
set_option linter.unusedVariables false

namespace PerSteps
theorem ePart : per_Part.f = pPart := rfl
theorem eRatio : per_Ratio.f = pRatio := rfl
theorem eHeld : per_held.f = pHeld := rfl
theorem eAt : per_At.f = pAt := rfl
theorem eIsIn : per_isIn.f = pIsIn := rfl
theorem known_ok (k : Nat) : althinglaw4_known.f (k + 1) = some true := by kernel_rfl
end PerSteps
open PerSteps

theorem PerSteps : althinglaw4_PerSteps.Pure := by
  intro a b c d k x _ _ _ _ _ _
  refine ⟨0 + 1 + 1, ?_⟩
  unfold althinglaw4_PerSteps.f
  by_cases g0 : a < 0
  · rw [if_pos g0]; rfl
  rw [if_neg g0]
  by_cases g1 : a > 1000000000
  · rw [if_pos g1]; rfl
  rw [if_neg g1]
  by_cases g2 : b < 0
  · rw [if_pos g2]; rfl
  rw [if_neg g2]
  by_cases g3 : b > a
  · rw [if_pos g3]; rfl
  rw [if_neg g3]
  by_cases g4 : c < 1
  · rw [if_pos g4]; rfl
  rw [if_neg g4]
  by_cases g5 : c > 1000000000
  · rw [if_pos g5]; rfl
  rw [if_neg g5]
  by_cases g6 : d < 1
  · rw [if_pos g6]; rfl
  rw [if_neg g6]
  by_cases g7 : d > 1000000000
  · rw [if_pos g7]; rfl
  rw [if_neg g7]
  by_cases g8 : k < 0
  · rw [if_pos g8]; rfl
  rw [if_neg g8]
  by_cases g9 : k > 50
  · rw [if_pos g9]; rfl
  rw [if_neg g9]
  by_cases g10 : x < 0
  · rw [if_pos g10]; rfl
  rw [if_neg g10]
  by_cases g11 : x ≥ d
  · rw [if_pos g11]; rfl
  rw [if_neg g11]
  have q := mulb (a := k) (b := d) (A := 50) (B := 1000000000) (by omega) (by omega) (by omega) (by omega)
  have q2 := mulb (a := k) (b := c) (A := 50) (B := 1000000000) (by omega) (by omega) (by omega) (by omega)
  rw [w64 (n := k * d) (by omega) (by omega), w64 (n := k * d + x) (by omega) (by omega)]
  by_cases g12 : k * d + x > 1000000000
  · rw [decide_eq_true g12]; rfl
  rw [decide_eq_false g12]
  have ok : okCurve 2 a b c d := Or.inr (Or.inl ⟨rfl, by omega, by omega, by omega, by omega, by omega, by omega, by omega, by omega⟩)
  have e1 : (k * d + x) / d = k := by
    rw [Int.add_comm, Int.add_mul_ediv_right _ _ (by omega), Int.ediv_eq_zero_of_lt (by omega) (by omega)]; omega
  have e2 : k * d / d = k := Int.mul_ediv_cancel _ (by omega)
  have c1 : C 2 a b c d (k * d + x) = max b (a - k * c) := by unfold C; rw [if_neg (by decide), if_pos rfl, e1]; omega
  have c2 : C 2 a b c d (k * d) = max b (a - k * c) := by unfold C; rw [if_neg (by decide), if_pos rfl, e2]; omega
  simp only [althinglaw4_PerSteps.j0]
  rw [if_neg (by simp), w64 (n := k * d) (by omega) (by omega), w64 (n := k * d + x) (by omega) (by omega), eAt, at_eq _ ok, Option.bind_some, hold_of (by omega) (by omega), c1,
    w64 (n := k * c) (by omega) (by omega), w64 (by omega) (by omega), mx_eq, if_pos rfl, at_eq _ ok, Option.bind_some, hold_of (by omega) (by omega), c2, Option.bind_some, if_pos rfl, known_ok]
  rfl

end Go.Proofs.Ytpnjddolboahoaa.Pure
