/- Plain facts about parts, ratios and curves: whole numbers alone, no program in sight. -/
import Derived.Test.YtpnjddolboahoaaWMore
namespace Go.Proofs.Ytpnjddolboahoaa.Math
open Go.RowKit Go.Proofs.YtpnjddolboahoaaW.PrintWords
set_option linter.unusedVariables false

theorem w64 {n : Int} (h1 : -9223372036854775808 ≤ n) (h2 : n ≤ 9223372036854775807) : wrap64 n = n := by
  unfold wrap64; omega

theorem td {a b : Int} (h : 0 ≤ a) : Int.tdiv a b = a / b := Int.tdiv_eq_ediv_of_nonneg h

/-- A product of two bounded numbers is bounded. -/
theorem mulb {a b A B : Int} (ha : 0 ≤ a) (hA : a ≤ A) (hb : 0 ≤ b) (hB : b ≤ B) : 0 ≤ a * b ∧ a * b ≤ A * B :=
  ⟨Int.mul_nonneg ha hb, Int.mul_le_mul hA hB hb (by omega)⟩

theorem div_le_self {a b : Int} (ha : 0 ≤ a) (hb : 1 ≤ b) : 0 ≤ a / b ∧ a / b ≤ a :=
  ⟨Int.ediv_nonneg ha (by omega), Int.ediv_le_self b ha⟩

theorem le_div {a b c : Int} (hb : 0 < b) : c ≤ a / b ↔ c * b ≤ a := Int.le_ediv_iff_mul_le hb

/-- What whole division says. -/
theorem div_spec {a b : Int} (hb : 0 < b) : a / b * b ≤ a ∧ a < (a / b + 1) * b := by
  constructor
  · exact (le_div hb).mp (Int.le_refl _)
  · have h := Int.lt_ediv_add_one_mul_self a hb
    exact h

theorem div_mono {a b c : Int} (hc : 0 < c) (h : a ≤ b) : a / c ≤ b / c := Int.ediv_le_ediv hc h

theorem mn_eq (a b : Int) : mn a b = min a b := by unfold mn; omega
theorem mx_eq (a b : Int) : mx a b = max a b := by unfold mx; omega

/-! The printed functions, once more (each key's own copies are equal to these by unfolding). -/
def pIn (a0 : Int) (a1 : Int) : Option (Bool) := if a0 ≥ 0 then (some (decide (a0 ≤ a1))) else (some false)
def pPart (a0 : Int) (a1 : Int) (a2 : Bool) : Option (Int) := if a2 = true then (some (wrap64 (Int.tdiv (wrap64 ((wrap64 (a0 * a1)) + 999999999)) 1000000000))) else (some (wrap64 (Int.tdiv (wrap64 (a0 * a1)) 1000000000)))
def rPart (a0 : Int) (a1 : Int) (a2 : Bool) : Option (Int) := if a2 = true then (some (wrap64 (Int.tdiv (wrap64 ((wrap64 ((wrap64 (a0 * a1)) + 1000000000)) - 1)) 1000000000))) else (some (wrap64 (Int.tdiv (wrap64 (a0 * a1)) 1000000000)))
def pRatio (a0 : Int) (a1 : Int) : Option (Int) := if a1 = 0 then (some 0) else (some (mn (wrap64 (Int.tdiv (wrap64 (a0 * 1000000000)) a1)) 1000000000))
def rRatio (a0 : Int) (a1 : Int) : Option (Int) := if a1 = 0 then (some 0) else (some (mn 1000000000 (wrap64 (Int.tdiv (wrap64 (a0 * 1000000000)) a1))))
def pHeld (a0 : Int) (a1 : Int) (a2 : Int) : Option (Int) := some (mn (mx a0 a1) a2)
def pAt (a0_0 : Int) (a0_1 : Int) (a0_2 : Int) (a0_3 : Int) (a0_4 : Int) (a1 : Int) : Option (Int) := (pHeld a1 0 1000000000).bind fun t102 => (if a0_0 = 1 then (if t102 ≥ a0_3 then (some a0_2) else (if a0_3 = 0 then (none) else (some (wrap64 (a0_1 - (wrap64 (Int.tdiv (wrap64 ((wrap64 (a0_1 - a0_2)) * t102)) a0_3))))))) else (if a0_0 = 2 then (if a0_4 = 0 then (none) else (some (mx (wrap64 (a0_1 - (wrap64 ((wrap64 (Int.tdiv t102 a0_4)) * a0_3)))) a0_2))) else (if a0_0 = 3 then (if (wrap64 (t102 + a0_2)) = 0 then (none) else ((pHeld (wrap64 ((wrap64 (Int.tdiv (wrap64 (a0_1 * 1000000000)) (wrap64 (t102 + a0_2)))) - a0_3)) 0 1000000000).bind fun t103 => (some t103))) else (some 0))))
def pIsIn (a0 : Int) (a1 : Int) (a2 : Int) : Option (Bool) := if a0 ≥ a1 then (some (decide (a0 ≤ a2))) else (some false)

theorem pIsIn_eq (a b c : Int) : pIsIn a b c = some (decide (b ≤ a ∧ a ≤ c)) := by
  unfold pIsIn
  by_cases h : a ≥ b
  · rw [if_pos h]; congr 1; simp; omega
  · rw [if_neg h]; congr 1; symm; simp; omega

theorem pIn_eq (a b : Int) : pIn a b = some (decide (0 ≤ a ∧ a ≤ b)) := pIsIn_eq a 0 b

/-! Parts and ratios -/
theorem part_down {n p : Int} (h0 : 0 ≤ n) (h1 : n ≤ 8589934592) (p0 : 0 ≤ p) (p1 : p ≤ 1000000000) :
    pPart n p false = some (n * p / 1000000000) := by
  obtain ⟨q0, q1⟩ := mulb h0 h1 p0 p1
  unfold pPart
  rw [if_neg (by simp), w64 (n := n * p) (by omega) (by omega), td q0, w64 (by omega) (by omega)]

theorem part_up {n p : Int} (h0 : 0 ≤ n) (h1 : n ≤ 8589934592) (p0 : 0 ≤ p) (p1 : p ≤ 1000000000) :
    pPart n p true = some ((n * p + 999999999) / 1000000000) := by
  obtain ⟨q0, q1⟩ := mulb h0 h1 p0 p1
  unfold pPart
  rw [if_pos rfl, w64 (n := n * p) (by omega) (by omega), w64 (n := n * p + 999999999) (by omega) (by omega), td (by omega), w64 (by omega) (by omega)]

theorem rpart_down {n p : Int} (h0 : 0 ≤ n) (h1 : n ≤ 8589934592) (p0 : 0 ≤ p) (p1 : p ≤ 1000000000) :
    rPart n p false = some (n * p / 1000000000) := by
  obtain ⟨q0, q1⟩ := mulb h0 h1 p0 p1
  unfold rPart
  rw [if_neg (by simp), w64 (n := n * p) (by omega) (by omega), td q0, w64 (by omega) (by omega)]

theorem rpart_up {n p : Int} (h0 : 0 ≤ n) (h1 : n ≤ 8589934592) (p0 : 0 ≤ p) (p1 : p ≤ 1000000000) :
    rPart n p true = some ((n * p + 999999999) / 1000000000) := by
  obtain ⟨q0, q1⟩ := mulb h0 h1 p0 p1
  unfold rPart
  rw [if_pos rfl, w64 (n := n * p) (by omega) (by omega), w64 (n := n * p + 1000000000) (by omega) (by omega), w64 (n := n * p + 1000000000 - 1) (by omega) (by omega), td (by omega), w64 (by omega) (by omega), show n * p + 1000000000 - 1 = n * p + 999999999 by omega]

/-- A ratio as whole numbers have it. -/
def R (a b : Int) : Int := if b = 0 then 0 else min (a * 1000000000 / b) 1000000000

theorem R_in {a b : Int} (a0 : 0 ≤ a) (b0 : 0 ≤ b) : 0 ≤ R a b ∧ R a b ≤ 1000000000 := by
  unfold R
  by_cases h : b = 0
  · rw [if_pos h]; omega
  · rw [if_neg h]
    have := Int.ediv_nonneg (a := a * 1000000000) (b := b) (by omega) b0
    omega

theorem ratio {a b : Int} (a0 : 0 ≤ a) (a1 : a ≤ 8589934592) (b0 : 0 ≤ b) : pRatio a b = some (R a b) := by
  unfold pRatio R
  by_cases h : b = 0
  · rw [if_pos h, if_pos h]
  · rw [if_neg h, if_neg h]
    obtain ⟨d0, d1⟩ := div_le_self (a := a * 1000000000) (b := b) (by omega) (by omega)
    rw [w64 (n := a * 1000000000) (by omega) (by omega), td (by omega), w64 (by omega) (by omega), mn_eq]

theorem rratio {a b : Int} (a0 : 0 ≤ a) (a1 : a ≤ 8589934592) (b0 : 0 ≤ b) : rRatio a b = some (R a b) := by
  unfold rRatio R
  by_cases h : b = 0
  · rw [if_pos h, if_pos h]
  · rw [if_neg h, if_neg h]
    obtain ⟨d0, d1⟩ := div_le_self (a := a * 1000000000) (b := b) (by omega) (by omega)
    rw [w64 (n := a * 1000000000) (by omega) (by omega), td (by omega), w64 (by omega) (by omega), mn_eq, Int.min_comm]

/-- A ratio is at least a threshold just where it is by whole numbers. -/
theorem R_ge {a b t : Int} (b0 : 0 < b) (t1 : t ≤ 1000000000) : t ≤ R a b ↔ t * b ≤ a * 1000000000 := by
  unfold R
  rw [if_neg (by omega)]
  have := le_div (a := a * 1000000000) (c := t) b0
  omega

theorem R_self {n : Int} (h : 0 < n) : R n n = 1000000000 := by
  unfold R
  rw [if_neg (by omega), Int.mul_ediv_cancel_left _ (by omega)]
  omega

theorem R_zero (n : Int) : R n 0 = 0 := by unfold R; rw [if_pos rfl]

/-- The part that is left is the other part, rounded up. -/
theorem parts {n p : Int} (h0 : 0 ≤ n) (p0 : 0 ≤ p) (p1 : p ≤ 1000000000) :
    n * p / 1000000000 + (n * (1000000000 - p) + 999999999) / 1000000000 = n ∧
    n * p / 1000000000 ≤ (n * p + 999999999) / 1000000000 ∧ (n * p + 999999999) / 1000000000 ≤ n * p / 1000000000 + 1 ∧
    0 ≤ n * p / 1000000000 ∧ (n * p + 999999999) / 1000000000 ≤ n := by
  have e : n * (1000000000 - p) = n * 1000000000 - n * p := Int.mul_sub ..
  have q0 : 0 ≤ n * p := Int.mul_nonneg h0 p0
  have q1 : n * p ≤ n * 1000000000 := Int.mul_le_mul_of_nonneg_left p1 h0
  rw [e]
  generalize n * p = q at *
  omega

/-! Curves -/
/-- May a curve be? -/
def okCurve (k a b c d : Int) : Prop :=
  (k = 1 ∧ 0 ≤ a ∧ a ≤ 1000000000 ∧ 0 ≤ b ∧ b ≤ a ∧ 1 ≤ c ∧ c ≤ 1000000000 ∧ d = 0) ∨
  (k = 2 ∧ 0 ≤ a ∧ a ≤ 1000000000 ∧ 0 ≤ b ∧ b ≤ a ∧ 1 ≤ c ∧ c ≤ 1000000000 ∧ 1 ≤ d ∧ d ≤ 1000000000) ∨
  (k = 3 ∧ 0 ≤ a ∧ a ≤ 1000000000 ∧ 1 ≤ b ∧ b ≤ 1000000000 ∧ 0 ≤ c ∧ c ≤ 1000000000 ∧ d = 0)
instance (k a b c d : Int) : Decidable (okCurve k a b c d) := by unfold okCurve; infer_instance

/-- Where it is asked. -/
def hold (x : Int) : Int := min (max x 0) 1000000000
theorem hold_in (x : Int) : 0 ≤ hold x ∧ hold x ≤ 1000000000 := by unfold hold; omega
theorem hold_of {x : Int} (h0 : 0 ≤ x) (h1 : x ≤ 1000000000) : hold x = x := by unfold hold; omega

/-- How high a curve is, at a place from 0 to all. -/
def C (k a b c d x : Int) : Int :=
  if k = 1 then (if x ≥ c then b else a - (a - b) * x / c)
  else if k = 2 then max (a - x / d * c) b
  else min (max (a * 1000000000 / (x + b) - c) 0) 1000000000

theorem held_eq (x : Int) : pHeld x 0 1000000000 = some (hold x) := by unfold pHeld hold; rw [mn_eq, mx_eq]

theorem lin_fall {a b c x : Int} (a1 : a ≤ 1000000000) (b0 : 0 ≤ b) (ba : b ≤ a) (c1 : 1 ≤ c) (x0 : 0 ≤ x) (xc : x ≤ c) :
    0 ≤ (a - b) * x ∧ (a - b) * x ≤ (a - b) * c ∧ 0 ≤ (a - b) * x / c ∧ (a - b) * x / c ≤ a - b := by
  have q0 : 0 ≤ (a - b) * x := Int.mul_nonneg (by omega) x0
  have q1 : (a - b) * x ≤ (a - b) * c := Int.mul_le_mul_of_nonneg_left xc (by omega)
  refine ⟨q0, q1, Int.ediv_nonneg q0 (by omega), ?_⟩
  have h := div_mono (c := c) (by omega) q1
  rwa [Int.mul_ediv_cancel _ (by omega)] at h

theorem at_eq {k a b c d : Int} (x : Int) (h : okCurve k a b c d) : pAt k a b c d x = some (C k a b c d (hold x)) := by
  obtain ⟨x0, x1⟩ := hold_in x
  unfold pAt C
  rw [held_eq, Option.bind_some]
  generalize hold x = y at *
  rcases h with ⟨rfl, a0, a1, b0, ba, c1, c2, rfl⟩ | ⟨rfl, a0, a1, b0, ba, c1, c2, d1, d2⟩ | ⟨rfl, a0, a1, b1, b2, c0, c1, rfl⟩
  · rw [if_pos rfl, if_pos rfl]
    by_cases hx : y ≥ c
    · rw [if_pos hx, if_pos hx]
    · rw [if_neg hx, if_neg hx, if_neg (by omega)]
      obtain ⟨q0, q1, d0, d1⟩ := lin_fall a1 b0 ba c1 x0 (x := y) (by omega)
      have hb := (mulb (a := a - b) (b := c) (A := 1000000000) (B := 1000000000) (by omega) (by omega) (by omega) (by omega)).2
      rw [w64 (n := a - b) (by omega) (by omega), w64 (n := (a - b) * y) (by omega) (by omega), td q0, w64 (n := (a - b) * y / c) (by omega) (by omega), w64 (by omega) (by omega)]
  · rw [if_neg (by decide), if_pos rfl, if_neg (by omega), if_neg (by decide), if_pos rfl]
    obtain ⟨q0, q1⟩ := div_le_self (a := y) (b := d) x0 d1
    obtain ⟨m0, m1⟩ := mulb (a := y / d) (b := c) (A := 1000000000) (B := 1000000000) q0 (by omega) (by omega) c2
    rw [td x0, w64 (n := y / d) (by omega) (by omega), w64 (n := y / d * c) (by omega) (by omega), w64 (by omega) (by omega), mx_eq]
  · rw [if_neg (by decide), if_neg (by decide), if_pos rfl, w64 (n := y + b) (by omega) (by omega), if_neg (by omega), if_neg (by decide), if_neg (by decide)]
    obtain ⟨q0, q1⟩ := div_le_self (a := a * 1000000000) (b := y + b) (by omega) (by omega)
    rw [w64 (n := a * 1000000000) (by omega) (by omega), td (by omega), w64 (n := a * 1000000000 / (y + b)) (by omega) (by omega), w64 (by omega) (by omega)]
    unfold pHeld
    rw [Option.bind_some, mn_eq, mx_eq]

theorem C_in {k a b c d x : Int} (h : okCurve k a b c d) (x0 : 0 ≤ x) : 0 ≤ C k a b c d x ∧ C k a b c d x ≤ 1000000000 := by
  unfold C
  rcases h with ⟨rfl, a0, a1, b0, ba, c1, c2, rfl⟩ | ⟨rfl, a0, a1, b0, ba, c1, c2, d1, d2⟩ | ⟨rfl, a0, a1, b1, b2, c0, c1, rfl⟩
  · rw [if_pos rfl]
    by_cases hx : x ≥ c
    · rw [if_pos hx]; omega
    · rw [if_neg hx]
      obtain ⟨q0, q1, d0, d1⟩ := lin_fall a1 b0 ba c1 x0 (x := x) (by omega)
      omega
  · rw [if_neg (by decide), if_pos rfl]
    have := Int.mul_nonneg (Int.ediv_nonneg (a := x) (b := d) x0 (by omega)) (b := c) (by omega)
    omega
  · rw [if_neg (by decide), if_neg (by decide)]; omega

/-- A curve never rises. -/
theorem C_anti {k a b c d x y : Int} (h : okCurve k a b c d) (x0 : 0 ≤ x) (xy : x ≤ y) : C k a b c d y ≤ C k a b c d x := by
  unfold C
  rcases h with ⟨rfl, a0, a1, b0, ba, c1, c2, rfl⟩ | ⟨rfl, a0, a1, b0, ba, c1, c2, d1, d2⟩ | ⟨rfl, a0, a1, b1, b2, c0, c1, rfl⟩
  · rw [if_pos rfl, if_pos rfl]
    by_cases hy : y ≥ c
    · rw [if_pos hy]
      by_cases hx : x ≥ c
      · rw [if_pos hx]; omega
      · rw [if_neg hx]
        obtain ⟨q0, q1, d0, d1⟩ := lin_fall a1 b0 ba c1 x0 (x := x) (by omega)
        omega
    · rw [if_neg hy, if_neg (by omega)]
      have h1 : (a - b) * x ≤ (a - b) * y := Int.mul_le_mul_of_nonneg_left xy (by omega)
      have := div_mono (c := c) (by omega) h1
      omega
  · rw [if_neg (by decide), if_pos rfl, if_neg (by decide), if_pos rfl]
    have h1 := div_mono (c := d) (by omega) xy
    have h2 : x / d * c ≤ y / d * c := Int.mul_le_mul_of_nonneg_right h1 (by omega)
    omega
  · rw [if_neg (by decide), if_neg (by decide), if_neg (by decide), if_neg (by decide)]
    have h1 : a * 1000000000 / (y + b) ≤ a * 1000000000 / (x + b) := by
      rw [le_div (by omega)]
      have g0 := Int.ediv_nonneg (a := a * 1000000000) (b := y + b) (by omega) (by omega)
      have g1 := (div_spec (a := a * 1000000000) (b := y + b) (by omega)).1
      have g2 : a * 1000000000 / (y + b) * (x + b) ≤ a * 1000000000 / (y + b) * (y + b) := Int.mul_le_mul_of_nonneg_left (by omega) g0
      omega
    omega

end Go.Proofs.Ytpnjddolboahoaa.Math
