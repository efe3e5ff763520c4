/- Plain facts: what passes passes later, with more ayes, fewer nays and more support. -/
import Derived.Test.YtpnjddolboahoaaMathTrack
namespace Go.Proofs.Ytpnjddolboahoaa.Math
open Go.RowKit Go.Proofs.YtpnjddolboahoaaW.PrintWords
set_option linter.unusedVariables false

theorem R_mono {a b n : Int} (a0 : 0 ≤ a) (ab : a ≤ b) (n0 : 0 ≤ n) : R a n ≤ R b n := by
  unfold R
  by_cases h : n = 0
  · rw [if_pos h, if_pos h]; omega
  · rw [if_neg h, if_neg h]
    have := div_mono (a := a * 1000000000) (b := b * 1000000000) (c := n) (by omega) (by omega)
    omega

/-- More ayes and fewer nays are no smaller share. -/
theorem R_share {x0 x1 k m : Int} (h0 : 0 ≤ x0) (h1 : 0 ≤ x1) (k0 : 0 ≤ k) (m0 : 0 ≤ m) (m1 : m ≤ x1) : R x0 (x0 + x1) ≤ R (x0 + k) (x0 + k + (x1 - m)) := by
  have t0 := R_in (a := x0) (b := x0 + x1) h0 (by omega)
  by_cases hy : x0 + k + (x1 - m) = 0
  · have e0 : x0 = 0 := by omega
    have : R x0 (x0 + x1) = 0 := by
      subst e0; unfold R; split
      · rfl
      · rw [Int.zero_mul, Int.zero_ediv]; rfl
    have := R_in (a := x0 + k) (b := x0 + k + (x1 - m)) (by omega) (by omega)
    omega
  · by_cases hx : x0 + x1 = 0
    · have : R x0 (x0 + x1) = 0 := by rw [hx, R_zero]
      have := R_in (a := x0 + k) (b := x0 + k + (x1 - m)) (by omega) (by omega)
      omega
    · rw [R_ge (by omega) t0.2]
      have h := (R_ge (a := x0) (b := x0 + x1) (t := R x0 (x0 + x1)) (by omega) t0.2).mp (Int.le_refl _)
      generalize R x0 (x0 + x1) = t at *
      have e : t * (x0 + k + (x1 - m)) = t * (x0 + x1) + t * k - t * m := by rw [← Int.mul_add, ← Int.mul_sub]; congr 1; omega
      have hk : t * k ≤ 1000000000 * k := Int.mul_le_mul_of_nonneg_right t0.2 k0
      have hm := Int.mul_nonneg t0.1 m0
      rw [e]; omega

theorem spot_mono {e e' d : Int} (e0 : 0 ≤ e) (ee : e ≤ e') (d1 : 1 ≤ d) : spot e d ≤ spot e' d := R_mono (by omega) (by omega) (by omega)

theorem pass_more {a3 a6 a7 a8 a9 a10 a11 a12 a13 a14 a15 x0 x1 x2 n e k m s e' : Int} (okA : okCurve a6 a7 a8 a9 a10) (okS : okCurve a11 a12 a13 a14 a15) (d1 : 1 ≤ a3)
    (h0 : 0 ≤ x0) (h1 : 0 ≤ x1) (h2 : 0 ≤ x2) (n0 : 0 ≤ n) (e0 : 0 ≤ e) (ee : e ≤ e') (k0 : 0 ≤ k) (m0 : 0 ≤ m) (m1 : m ≤ x1) (s0 : 0 ≤ s)
    (h : pass a3 a6 a7 a8 a9 a10 a11 a12 a13 a14 a15 x0 x1 x2 n e) : pass a3 a6 a7 a8 a9 a10 a11 a12 a13 a14 a15 (x0 + k) (x1 - m) (x2 + s) n e' := by
  have hs := spot_mono e0 ee d1
  have hs0 := (spot_in e0 d1).1
  refine ⟨Int.le_trans (Int.le_trans (C_anti okA hs0 hs) h.1) (R_share h0 h1 k0 m0 m1), Int.le_trans (Int.le_trans (C_anti okS hs0 hs) h.2) (R_mono h2 (by omega) n0)⟩

end Go.Proofs.Ytpnjddolboahoaa.Math
