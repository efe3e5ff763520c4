/- Plain facts on a search by halves. -/
import Derived.Test.YtpnjddolboahoaaMathIs
namespace Go.Proofs.Ytpnjddolboahoaa.Math
open Go.RowKit
set_option linter.unusedVariables false

/-- A search by halves, so many rounds. -/
def bsN (p : Int → Bool) : Nat → Int → Int → Int
  | 0, lo, _ => lo
  | k + 1, lo, hi => if lo < hi then (if p ((lo + hi) / 2) = true then bsN p k lo ((lo + hi) / 2) else bsN p k ((lo + hi) / 2 + 1) hi) else lo

theorem bsN_done (p : Int → Bool) {lo hi : Int} (h : ¬ lo < hi) : ∀ k, bsN p k lo hi = lo
  | 0 => rfl
  | k + 1 => by unfold bsN; rw [if_neg h]

/-- What it finds: all ahead of it fails, it holds there or at the end. -/
theorem bsN_spec (p : Int → Bool) (mono : ∀ x y, x ≤ y → p x = true → p y = true) : ∀ (k : Nat) (lo hi : Int), lo ≤ hi → hi - lo < 2 ^ k →
    lo ≤ bsN p k lo hi ∧ bsN p k lo hi ≤ hi ∧ (∀ x, lo ≤ x → x < bsN p k lo hi → p x = false) ∧ (bsN p k lo hi < hi → p (bsN p k lo hi) = true)
  | 0, lo, hi, h, hk => by
    have : lo = hi := by simp at hk; omega
    subst this
    exact ⟨Int.le_refl _, Int.le_refl _, fun x h1 h2 => by unfold bsN at h2; omega, fun h => by unfold bsN at h; omega⟩
  | k + 1, lo, hi, h, hk => by
    unfold bsN
    have hk2 : hi - lo < 2 * 2 ^ k := by rw [Int.pow_succ] at hk; omega
    by_cases hl : lo < hi
    · rw [if_pos hl]
      by_cases hp : p ((lo + hi) / 2) = true
      · rw [if_pos hp]
        obtain ⟨h1, h2, h3, h4⟩ := bsN_spec p mono k lo ((lo + hi) / 2) (by omega) (by omega)
        refine ⟨h1, by omega, h3, fun _ => ?_⟩
        by_cases he : bsN p k lo ((lo + hi) / 2) < (lo + hi) / 2
        · exact h4 he
        · rw [show bsN p k lo ((lo + hi) / 2) = (lo + hi) / 2 by omega]; exact hp
      · rw [if_neg hp]
        obtain ⟨h1, h2, h3, h4⟩ := bsN_spec p mono k ((lo + hi) / 2 + 1) hi (by omega) (by omega)
        refine ⟨by omega, h2, fun x hx1 hx2 => ?_, h4⟩
        by_cases hx : (lo + hi) / 2 + 1 ≤ x
        · exact h3 x hx hx2
        · cases hpx : p x with
          | false => rfl
          | true => exact absurd (mono x ((lo + hi) / 2) (by omega) hpx) hp
    · rw [if_neg hl]
      exact ⟨Int.le_refl _, h, fun x h1 h2 => by omega, fun h => by omega⟩

end Go.Proofs.Ytpnjddolboahoaa.Math
