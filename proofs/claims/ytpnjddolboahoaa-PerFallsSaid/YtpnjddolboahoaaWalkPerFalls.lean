/- A curve never rises and stays within nothing and all: the law's function answers true at every curve and every two places. -/
import Derived.Test.YtpnjddolboahoaaPPerFallsx3
import Derived.Test.YtpnjddolboahoaaMathIs
namespace Go.Proofs.Ytpnjddolboahoaa.WalkPerFalls
open Go.RowKit Go.Proofs.Ytpnjddolboahoaa.PPerFalls Go.Proofs.YtpnjddolboahoaaW.PrintWords Go.Proofs.YtpnjddolboahoaaW.PrintLast Go.Proofs.Ytpnjddolboahoaa.Math
set_option linter.unusedVariables false

theorem eAt : per_At.f = pAt := rfl
theorem erIs : althingref4_Is.f = rIs := rfl
theorem known_ok (k : Nat) : althinglaw4_known.f (k + 1) = some true := by kernel_rfl

theorem pure (a b c d e x y : Int) : althinglaw4_PerFalls.f 1 a b c d e x y = some true := by
  unfold althinglaw4_PerFalls.f
  rw [erIs, rIs_eq, Option.bind_some]
  by_cases ok : okCurve a b c d e
  · rw [if_pos (decide_eq_true ok), eAt, at_eq _ ok, Option.bind_some, at_eq _ ok, Option.bind_some]
    have h0 := hold_in (mn x y)
    have h1 : hold (mn x y) ≤ hold (mx x y) := by rw [mn_eq, mx_eq]; unfold hold; omega
    rw [if_pos (C_anti ok h0.1 h1), if_pos (C_in ok (hold_in _).1).1, if_pos (C_in ok h0.1).2, known_ok]
    rfl
  · rw [if_neg (by simp [ok])]

theorem walk (a b c d e x y : Int) (w : World) (_ : (Lit.int .i64 a).wf = true ∧ (Lit.int .i64 b).wf = true ∧ (Lit.int .i64 c).wf = true ∧ (Lit.int .i64 d).wf = true ∧ (Lit.int .i64 e).wf = true) (_ : (Lit.int .i64 x).wf = true) (_ : (Lit.int .i64 y).wf = true) :
    Calls Try.prog 13 #[.agg #[.int .i64 a, .int .i64 b, .int .i64 c, .int .i64 d, .int .i64 e], .int .i64 x, .int .i64 y] w fun e w' => e = .returned (.bool true) ∧ Below w.heap.size w w' :=
  (althinglaw4_PerFalls.calls 1 a b c d e x y true w (pure a b c d e x y)).mono fun _ _ h => h

end Go.Proofs.Ytpnjddolboahoaa.WalkPerFalls
