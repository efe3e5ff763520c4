/- A linear curve lies on its line, rounded down: for every such curve and each place of its length. -/
import Derived.Test.YtpnjddolboahoaaPPerMiddlesx2
import Derived.Test.YtpnjddolboahoaaMath
namespace Go.Proofs.Ytpnjddolboahoaa.Pure
open Go.RowKit Go.Proofs.Ytpnjddolboahoaa.PPerMiddles Go.Proofs.YtpnjddolboahoaaW.PrintWords Go.Proofs.YtpnjddolboahoaaW.PrintLast Go.Proofs.Ytpnjddolboahoaa.Math
set_option linter.unusedVariables false

namespace PerMiddles
theorem ePart : per_Part.f = pPart := rfl
theorem eRatio : per_Ratio.f = pRatio := rfl
theorem eHeld : per_held.f = pHeld := rfl
theorem eAt : per_At.f = pAt := rfl
theorem eIsIn : per_isIn.f = pIsIn := rfl
theorem known_ok (k : Nat) : althinglaw4_known.f (k + 1) = some true := by kernel_rfl
end PerMiddles
open PerMiddles

theorem PerMiddles : althinglaw4_PerMiddles.Pure := by
  intro a b c x _ _ _ _
  refine ⟨0 + 1 + 1, ?_⟩
  unfold althinglaw4_PerMiddles.f
  by_cases g0 : a < 0
  · rw [if_pos g0]; rfl
  rw [if_neg g0]
  by_cases g1 : a > 1000000000
  · rw [if_pos g1]; rfl
  rw [if_neg g1]
  by_cases g2 : b < 0
  · rw [if_pos g2]; rfl
  rw [if_neg g2]
  by_cases g3 : b > a
  · rw [if_pos g3]; rfl
  rw [if_neg g3]
  by_cases g4 : c < 1
  · rw [if_pos g4]; rfl
  rw [if_neg g4]
  by_cases g5 : c > 1000000000
  · rw [if_pos g5]; rfl
  rw [if_neg g5]
  by_cases g6 : x < 0
  · rw [if_pos g6]; rfl
  rw [if_neg g6]
  by_cases g7 : x > c
  · rw [decide_eq_true g7]; rfl
  rw [decide_eq_false g7]
  have ok : okCurve 1 a b c 0 := Or.inl ⟨rfl, by omega, by omega, by omega, by omega, by omega, by omega, rfl⟩
  obtain ⟨q0, q1, d0, d1⟩ := lin_fall (a := a) (b := b) (c := c) (x := x) (by omega) (by omega) (by omega) (by omega) (by omega) (by omega)
  have q2 := (mulb (a := a - b) (b := c) (A := 1000000000) (B := 1000000000) (by omega) (by omega) (by omega) (by omega)).2
  -- how far it has fallen
  have fell : a - C 1 a b c 0 x = (a - b) * x / c := by
    unfold C
    rw [if_pos rfl]
    by_cases hx : x ≥ c
    · obtain rfl : x = c := by omega
      rw [if_pos hx, Int.mul_ediv_cancel _ (by omega)]
    · rw [if_neg hx]; omega
  have ci := C_in ok (x := x) (by omega)
  obtain ⟨s1, s2⟩ := div_spec (a := (a - b) * x) (b := c) (by omega)
  have m1 := mulb (a := (a - b) * x / c) (b := c) (A := 1000000000) (B := 1000000000) d0 (by omega) (by omega) (by omega)
  have m2 := mulb (a := (a - b) * x / c + 1) (b := c) (A := 1000000001) (B := 1000000000) (by omega) (by omega) (by omega) (by omega)
  simp only [althinglaw4_PerMiddles.j0]
  rw [if_neg (by simp), eAt, at_eq _ ok, Option.bind_some, hold_of (by omega) (by omega), w64 (n := a - C 1 a b c 0 x) (by omega) (by omega), fell,
    w64 (n := a - b) (by omega) (by omega), w64 (n := (a - b) * x) (by omega) (by omega), w64 (n := (a - b) * x / c * c) (by omega) (by omega), if_pos s1,
    w64 (n := (a - b) * x / c + 1) (by omega) (by omega), w64 (n := ((a - b) * x / c + 1) * c) (by omega) (by omega), if_pos s2, known_ok]
  rfl

end Go.Proofs.Ytpnjddolboahoaa.Pure
