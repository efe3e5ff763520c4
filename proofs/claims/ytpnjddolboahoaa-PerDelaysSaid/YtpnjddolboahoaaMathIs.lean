/- Plain facts: which curves may be, as the program and as the reference tell it. -/
import Derived.Test.YtpnjddolboahoaaMath
namespace Go.Proofs.Ytpnjddolboahoaa.Math
open Go.RowKit Go.Proofs.YtpnjddolboahoaaW.PrintWords
set_option linter.unusedVariables false

def rIs (a0_0 : Int) (a0_1 : Int) (a0_2 : Int) (a0_3 : Int) (a0_4 : Int) : Option (Bool) := if a0_0 = 1 then ((pIsIn a0_1 0 1000000000).bind fun t118 => (if t118 = true then ((pIsIn a0_2 0 a0_1).bind fun t119 => (if t119 = true then ((pIsIn a0_3 1 1000000000).bind fun t120 => (if t120 = true then (some (a0_4 == 0)) else (some false))) else (some false))) else (some false))) else (if a0_0 = 2 then ((pIsIn a0_1 0 1000000000).bind fun t121 => (if t121 = true then ((pIsIn a0_2 0 a0_1).bind fun t122 => (if t122 = true then ((pIsIn a0_3 1 1000000000).bind fun t123 => (if t123 = true then ((pIsIn a0_4 1 1000000000).bind fun t124 => (some t124)) else (some false))) else (some false))) else (some false))) else (if a0_0 = 3 then ((pIsIn a0_1 0 1000000000).bind fun t125 => (if t125 = true then ((pIsIn a0_2 1 1000000000).bind fun t126 => (if t126 = true then ((pIsIn a0_3 0 1000000000).bind fun t127 => (if t127 = true then (some (a0_4 == 0)) else (some false))) else (some false))) else (some false))) else (some false)))

def pIsJ : Nat → Bool → Int → Int → Int → Int → Int → Option (Bool)
  | 0, _, _, _, _, _, _ => none
  | k + 1, x3, x105000, x105001, x105002, x105003, x105004 => if x105000 = 1 then (if x3 = true then (some (x105004 == 0)) else (some false)) else (if x105000 = 2 then (if x3 = true then ((pIsIn x105004 1 1000000000).bind fun t108 => (some t108)) else (some false)) else (if x105000 = 3 then ((pIsIn x105001 0 1000000000).bind fun t109 => (if t109 = true then ((pIsIn x105003 0 1000000000).bind fun t110 => (if t110 = true then ((pIsIn x105002 1 1000000000).bind fun t111 => (if t111 = true then (some (x105004 == 0)) else (some false))) else (some false))) else (some false))) else (some false)))
def pIs (k : Nat) (a0_0 : Int) (a0_1 : Int) (a0_2 : Int) (a0_3 : Int) (a0_4 : Int) : Option (Bool) := (pIsIn a0_1 0 1000000000).bind fun t105 => (if t105 = true then ((pIsIn a0_2 0 a0_1).bind fun t106 => (if t106 = true then ((pIsIn a0_3 1 1000000000).bind fun t107 => (pIsJ k t107 a0_0 a0_1 a0_2 a0_3 a0_4)) else (pIsJ k false a0_0 a0_1 a0_2 a0_3 a0_4))) else (pIsJ k false a0_0 a0_1 a0_2 a0_3 a0_4))

theorem bd (d : Int) : (d == 0) = decide (d = 0) := by rw [Bool.eq_iff_iff]; simp

/-- The reference tells which curves may be. -/
theorem rIs_eq (k a b c d : Int) : rIs k a b c d = some (decide (okCurve k a b c d)) := by
  unfold rIs okCurve
  simp only [pIsIn_eq, Option.bind_some]
  by_cases k1 : k = 1
  · subst k1
    simp only [if_true]
    by_cases h1 : 0 ≤ a ∧ a ≤ 1000000000
    · by_cases h2 : 0 ≤ b ∧ b ≤ a
      · by_cases h3 : 1 ≤ c ∧ c ≤ 1000000000
        · simp [h1, h2, h3, bd]
        · simp [h1, h2, h3]; omega
      · simp [h1, h2]; omega
    · simp [h1]; omega
  · by_cases k2 : k = 2
    · subst k2
      simp only [if_true]
      by_cases h1 : 0 ≤ a ∧ a ≤ 1000000000
      · by_cases h2 : 0 ≤ b ∧ b ≤ a
        · by_cases h3 : 1 ≤ c ∧ c ≤ 1000000000
          · simp [h1, h2, h3]
          · simp [h1, h2, h3]; omega
        · simp [h1, h2]; omega
      · simp [h1]; omega
    · by_cases k3 : k = 3
      · subst k3
        simp only [if_true]
        by_cases h1 : 0 ≤ a ∧ a ≤ 1000000000
        · by_cases h2 : 1 ≤ b ∧ b ≤ 1000000000
          · by_cases h3 : 0 ≤ c ∧ c ≤ 1000000000
            · simp [h1, h2, h3, bd]
            · simp [h1, h2, h3]; omega
          · simp [h1, h2]; omega
        · simp [h1]; omega
      · simp [k1, k2, k3]

theorem pIsJ_eq (n : Nat) (q : Bool) (k a b c d : Int) (hq : q = decide ((0 ≤ a ∧ a ≤ 1000000000) ∧ (0 ≤ b ∧ b ≤ a) ∧ (1 ≤ c ∧ c ≤ 1000000000))) : pIsJ (n + 1) q k a b c d = some (decide (okCurve k a b c d)) := by
  simp only [pIsJ]
  simp only [pIsIn_eq, Option.bind_some]
  by_cases k1 : k = 1
  · subst k1
    rw [if_pos rfl]
    cases q with
    | true =>
      obtain ⟨⟨x1, x2⟩, ⟨x3, x4⟩, ⟨x5, x6⟩⟩ := of_decide_eq_true hq.symm
      show some (d == 0) = _
      rw [bd]; congr 1; rw [decide_eq_decide]; unfold okCurve; constructor <;> intro hh <;> omega
    | false =>
      have := of_decide_eq_false hq.symm
      show some false = _
      congr 1; symm; rw [decide_eq_false_iff_not]; unfold okCurve; omega
  · by_cases k2 : k = 2
    · subst k2
      rw [if_neg (by decide), if_pos rfl]
      cases q with
      | true =>
        obtain ⟨⟨x1, x2⟩, ⟨x3, x4⟩, ⟨x5, x6⟩⟩ := of_decide_eq_true hq.symm
        show some (decide _) = _
        congr 1; rw [decide_eq_decide]; unfold okCurve; constructor <;> intro hh <;> omega
      | false =>
        have := of_decide_eq_false hq.symm
        show some false = _
        congr 1; symm; rw [decide_eq_false_iff_not]; unfold okCurve; omega
    · by_cases k3 : k = 3
      · subst k3
        unfold okCurve
        simp only [if_true]
        by_cases h1 : 0 ≤ a ∧ a ≤ 1000000000
        · by_cases h2 : 1 ≤ b ∧ b ≤ 1000000000
          · by_cases h3 : 0 ≤ c ∧ c ≤ 1000000000
            · simp [h1, h2, h3, bd]
            · simp [h1, h2, h3]; omega
          · simp [h1, h2]; omega
        · simp [h1]; omega
      · unfold okCurve
        simp [k1, k2, k3]

/-- The program tells the same. -/
theorem pIs_eq (n : Nat) (k a b c d : Int) : pIs (n + 1) k a b c d = some (decide (okCurve k a b c d)) := by
  unfold pIs
  simp only [pIsIn_eq, Option.bind_some]
  by_cases h1 : 0 ≤ a ∧ a ≤ 1000000000
  · rw [if_pos (decide_eq_true h1)]
    by_cases h2 : 0 ≤ b ∧ b ≤ a
    · rw [if_pos (decide_eq_true h2)]
      refine pIsJ_eq _ _ _ _ _ _ _ ?_
      simp [h1, h2]
    · rw [if_neg (by simp [h2])]
      refine pIsJ_eq _ _ _ _ _ _ _ ?_
      simp [h2]
  · rw [if_neg (by simp [h1])]
    refine pIsJ_eq _ _ _ _ _ _ _ ?_
    simp [h1]

end Go.Proofs.Ytpnjddolboahoaa.Math
