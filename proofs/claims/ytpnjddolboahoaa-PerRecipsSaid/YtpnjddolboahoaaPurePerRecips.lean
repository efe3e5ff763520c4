/- A reciprocal curve lies just below its fraction: for every such curve and each place. -/
import Derived.Test.YtpnjddolboahoaaPPerRecipsx2
import Derived.Test.YtpnjddolboahoaaMath
namespace Go.Proofs.Ytpnjddolboahoaa.Pure
open Go.RowKit Go.Proofs.Ytpnjddolboahoaa.PPerRecips Go.Proofs.YtpnjddolboahoaaW.PrintWords Go.Proofs.YtpnjddolboahoaaW.PrintLast Go.Proofs.Ytpnjddolboahoaa.Math
set_option linter.unusedVariables false

namespace PerRecips
theorem ePart : per_Part.f = pPart := rfl
theorem eRatio : per_Ratio.f = pRatio := rfl
theorem eHeld : per_held.f = pHeld := rfl
theorem eAt : per_At.f = pAt := rfl
theorem eIsIn : per_isIn.f = pIsIn := rfl
theorem known_ok (k : Nat) : althinglaw4_known.f (k + 1) = some true := by kernel_rfl
end PerRecips
open PerRecips

theorem PerRecips : althinglaw4_PerRecips.Pure := by
  intro a b c x _ _ _ _
  refine ⟨0 + 1 + 1 + 1, ?_⟩
  unfold althinglaw4_PerRecips.f
  by_cases g0 : a < 0
  · rw [if_pos g0]; rfl
  rw [if_neg g0]
  by_cases g1 : a > 1000000000
  · rw [if_pos g1]; rfl
  rw [if_neg g1]
  by_cases g2 : b < 1
  · rw [if_pos g2]; rfl
  rw [if_neg g2]
  by_cases g3 : b > 1000000000
  · rw [if_pos g3]; rfl
  rw [if_neg g3]
  by_cases g4 : c < 0
  · rw [if_pos g4]; rfl
  rw [if_neg g4]
  by_cases g5 : c > 1000000000
  · rw [if_pos g5]; rfl
  rw [if_neg g5]
  by_cases g6 : x < 0
  · rw [if_pos g6]; rfl
  rw [if_neg g6]
  by_cases g7 : x > 1000000000
  · rw [decide_eq_true g7]; rfl
  rw [decide_eq_false g7]
  have ok : okCurve 3 a b c 0 := Or.inr (Or.inr ⟨rfl, by omega, by omega, by omega, by omega, by omega, by omega, rfl⟩)
  have ci := C_in ok (x := x) (by omega)
  have e : C 3 a b c 0 x = min (max (a * 1000000000 / (x + b) - c) 0) 1000000000 := by
    unfold C; rw [if_neg (by decide), if_neg (by decide)]
  simp only [althinglaw4_PerRecips.j0]
  rw [if_neg (by simp), eAt, at_eq _ ok, Option.bind_some, hold_of (by omega) (by omega)]
  have edge : althinglaw4_PerRecips.j1 (0 + 1 + 1) a b c x (C 3 a b c 0 x) true = some true := by
    simp only [althinglaw4_PerRecips.j1]
    rw [if_pos trivial, if_pos ci.1, known_ok]
    rfl
  by_cases y0 : C 3 a b c 0 x = 0
  · rw [if_pos y0]; exact edge
  rw [if_neg y0]
  by_cases y1 : C 3 a b c 0 x = 1000000000
  · rw [show (C 3 a b c 0 x == 1000000000) = true from beq_iff_eq.mpr y1]; exact edge
  rw [show (C 3 a b c 0 x == 1000000000) = false from beq_eq_false_iff_ne.mpr y1]
  have e2 : C 3 a b c 0 x + c = a * 1000000000 / (x + b) := by omega
  obtain ⟨s1, s2⟩ := div_spec (a := a * 1000000000) (b := x + b) (by omega)
  have d0 := Int.ediv_nonneg (a := a * 1000000000) (b := x + b) (by omega) (by omega)
  have m0 := Int.mul_nonneg d0 (b := x + b) (by omega)
  have m1 : (a * 1000000000 / (x + b) + 1) * (x + b) = a * 1000000000 / (x + b) * (x + b) + (x + b) := by rw [Int.add_mul, Int.one_mul]
  simp only [althinglaw4_PerRecips.j1]
  rw [if_neg (by simp), w64 (n := C 3 a b c 0 x + c) (by omega) (by omega), e2, w64 (n := x + b) (by omega) (by omega), w64 (n := a * 1000000000 / (x + b) * (x + b)) (by omega) (by omega),
    w64 (n := a * 1000000000) (by omega) (by omega), if_pos s1, w64 (n := a * 1000000000 / (x + b) + 1) (by omega) (by omega), w64 (n := (a * 1000000000 / (x + b) + 1) * (x + b)) (by omega) (by omega), if_pos s2, known_ok]
  rfl

end Go.Proofs.Ytpnjddolboahoaa.Pure
