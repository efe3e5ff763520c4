/- Plain facts on tracks: which may be, and when a tally passes. -/
import Derived.Test.YtpnjddolboahoaaMathIs
namespace Go.Proofs.Ytpnjddolboahoaa.Math
open Go.RowKit Go.Proofs.YtpnjddolboahoaaW.PrintWords
set_option linter.unusedVariables false

/-- May a track be? -/
def okTrack (a0 a1 a2 a3 a4 a5 a6 a7 a8 a9 a10 a11 a12 a13 a14 a15 a16 a17 : Int) : Prop :=
  (1 ≤ a0 ∧ a0 ≤ 12) ∧ (0 ≤ a1 ∧ a1 ≤ 1073741824) ∧ (0 ≤ a16 ∧ a16 ≤ 1073741824) ∧ (0 ≤ a2 ∧ a2 ≤ 1000) ∧ (0 ≤ a4 ∧ a4 ≤ 1000) ∧ (0 ≤ a5 ∧ a5 ≤ 1000) ∧ (1 ≤ a3 ∧ a3 ≤ 1000) ∧
    okCurve a6 a7 a8 a9 a10 ∧ okCurve a11 a12 a13 a14 a15 ∧ (0 ≤ a17 ∧ a17 ≤ 2)
instance (a0 a1 a2 a3 a4 a5 a6 a7 a8 a9 a10 a11 a12 a13 a14 a15 a16 a17 : Int) : Decidable (okTrack a0 a1 a2 a3 a4 a5 a6 a7 a8 a9 a10 a11 a12 a13 a14 a15 a16 a17) := by unfold okTrack; infer_instance

theorem chain_ (p q : Prop) [Decidable p] [Decidable q] : (if decide p = true then some (decide q) else some false) = some (decide (p ∧ q)) := by
  by_cases hp : p
  · rw [if_pos (decide_eq_true hp)]; simp [hp]
  · rw [if_neg (by simp [hp])]; simp [hp]

def rTrackIs (a0_0 : Int) (a0_1 : Int) (a0_2 : Int) (a0_3 : Int) (a0_4 : Int) (a0_5 : Int) (a0_6 : Int) (a0_7 : Int) (a0_8 : Int) (a0_9 : Int) (a0_10 : Int) (a0_11 : Int) (a0_12 : Int) (a0_13 : Int) (a0_14 : Int) (a0_15 : Int) (a0_16 : Int) (a0_17 : Int) : Option (Bool) := (pIsIn a0_0 1 12).bind fun t113 => (if t113 = true then ((pIsIn a0_1 0 1073741824).bind fun t114 => (if t114 = true then ((pIsIn a0_16 0 1073741824).bind fun t115 => (if t115 = true then ((pIsIn a0_2 0 1000).bind fun t116 => (if t116 = true then ((pIsIn a0_4 0 1000).bind fun t117 => (if t117 = true then ((pIsIn a0_5 0 1000).bind fun t118 => (if t118 = true then ((pIsIn a0_3 1 1000).bind fun t119 => (if t119 = true then ((rIs a0_6 a0_7 a0_8 a0_9 a0_10).bind fun t120 => (if t120 = true then ((rIs a0_11 a0_12 a0_13 a0_14 a0_15).bind fun t121 => (if t121 = true then ((pIsIn a0_17 0 2).bind fun t122 => (some t122)) else (some false))) else (some false))) else (some false))) else (some false))) else (some false))) else (some false))) else (some false))) else (some false))) else (some false))
def pTrackIs (k : Nat) (a0_0 : Int) (a0_1 : Int) (a0_2 : Int) (a0_3 : Int) (a0_4 : Int) (a0_5 : Int) (a0_6 : Int) (a0_7 : Int) (a0_8 : Int) (a0_9 : Int) (a0_10 : Int) (a0_11 : Int) (a0_12 : Int) (a0_13 : Int) (a0_14 : Int) (a0_15 : Int) (a0_16 : Int) (a0_17 : Int) : Option (Bool) := (pIsIn a0_0 1 12).bind fun t110 => (if t110 = true then ((pIsIn a0_1 0 1073741824).bind fun t111 => (if t111 = true then ((pIsIn a0_16 0 1073741824).bind fun t112 => (if t112 = true then ((pIsIn a0_2 0 1000).bind fun t113 => (if t113 = true then ((pIsIn a0_4 0 1000).bind fun t114 => (if t114 = true then ((pIsIn a0_5 0 1000).bind fun t115 => (if t115 = true then ((pIsIn a0_3 1 1000).bind fun t116 => (if t116 = true then ((pIs k a0_6 a0_7 a0_8 a0_9 a0_10).bind fun t117 => (if t117 = true then ((pIs k a0_11 a0_12 a0_13 a0_14 a0_15).bind fun t118 => (if t118 = true then ((pIsIn a0_17 0 2).bind fun t119 => (some t119)) else (some false))) else (some false))) else (some false))) else (some false))) else (some false))) else (some false))) else (some false))) else (some false))) else (some false))

theorem rTrackIs_eq (a0 a1 a2 a3 a4 a5 a6 a7 a8 a9 a10 a11 a12 a13 a14 a15 a16 a17 : Int) :
    rTrackIs a0 a1 a2 a3 a4 a5 a6 a7 a8 a9 a10 a11 a12 a13 a14 a15 a16 a17 = some (decide (okTrack a0 a1 a2 a3 a4 a5 a6 a7 a8 a9 a10 a11 a12 a13 a14 a15 a16 a17)) := by
  unfold rTrackIs
  simp only [pIsIn_eq, rIs_eq, Option.bind_some, chain_]
  rfl

theorem pTrackIs_eq (k : Nat) (a0 a1 a2 a3 a4 a5 a6 a7 a8 a9 a10 a11 a12 a13 a14 a15 a16 a17 : Int) :
    pTrackIs (k + 1) a0 a1 a2 a3 a4 a5 a6 a7 a8 a9 a10 a11 a12 a13 a14 a15 a16 a17 = some (decide (okTrack a0 a1 a2 a3 a4 a5 a6 a7 a8 a9 a10 a11 a12 a13 a14 a15 a16 a17)) := by
  unfold pTrackIs
  simp only [pIsIn_eq, pIs_eq, Option.bind_some, chain_]
  rfl

def pShares (a0_0 : Int) (a0_1 : Int) (a0_2 : Int) (a1 : Int) : Option (Int × Int) := (pRatio a0_0 (wrap64 (a0_0 + a0_1))).bind fun t124 => ((pRatio a0_2 a1).bind fun t125 => (some (t124, t125)))
def pFits (a0_0 : Int) (a0_1 : Int) (a0_2 : Int) (a1 : Int) : Option (Bool) := if a0_0 ≥ 0 then (if a0_1 ≥ 0 then (if a0_0 ≤ 8589934592 then (if a0_1 ≤ (wrap64 (8589934592 - a0_0)) then (if a0_2 ≥ 0 then (if a0_2 ≤ 8589934592 then (if a1 ≥ 0 then (some (decide (a1 ≤ 8589934592))) else (some false)) else (some false)) else (some false)) else (some false)) else (some false)) else (some false)) else (some false)
def pPassing (a0_0 : Int) (a0_1 : Int) (a0_2 : Int) (a0_3 : Int) (a0_4 : Int) (a0_5 : Int) (a0_6 : Int) (a0_7 : Int) (a0_8 : Int) (a0_9 : Int) (a0_10 : Int) (a0_11 : Int) (a0_12 : Int) (a0_13 : Int) (a0_14 : Int) (a0_15 : Int) (a0_16 : Int) (a0_17 : Int) (a1_0 : Int) (a1_1 : Int) (a1_2 : Int) (a2 : Int) (a3 : Int) : Option (Bool) := (pRatio (mn a3 a0_3) a0_3).bind fun t134 => ((pShares a1_0 a1_1 a1_2 a2).bind fun bt135 => ((pAt a0_6 a0_7 a0_8 a0_9 a0_10 t134).bind fun t137 => (if bt135.1 ≥ t137 then ((pAt a0_11 a0_12 a0_13 a0_14 a0_15 t134).bind fun t138 => (some (decide (bt135.2 ≥ t138)))) else (some false))))

/-- May a tally be asked? -/
def okTally (x0 x1 x2 n : Int) : Prop := 0 ≤ x0 ∧ 0 ≤ x1 ∧ x0 ≤ 8589934592 ∧ x1 ≤ 8589934592 - x0 ∧ 0 ≤ x2 ∧ x2 ≤ 8589934592 ∧ 0 ≤ n ∧ n ≤ 8589934592
instance (x0 x1 x2 n : Int) : Decidable (okTally x0 x1 x2 n) := by unfold okTally; infer_instance

theorem pFits_eq (x0 x1 x2 n : Int) : pFits x0 x1 x2 n = some (decide (okTally x0 x1 x2 n)) := by
  by_cases h : okTally x0 x1 x2 n
  · obtain ⟨h0, h1, h2, h3, h4, h5, h6, h7⟩ := id h
    rw [decide_eq_true h]
    unfold pFits
    rw [if_pos h0, if_pos h1, if_pos h2, w64 (by omega) (by omega), if_pos h3, if_pos h4, if_pos h5, if_pos h6, decide_eq_true h7]
  · rw [decide_eq_false h]
    unfold pFits
    by_cases h0 : x0 ≥ 0
    · rw [if_pos h0]
      by_cases h1 : x1 ≥ 0
      · rw [if_pos h1]
        by_cases h2 : x0 ≤ 8589934592
        · rw [if_pos h2, w64 (by omega) (by omega)]
          by_cases h3 : x1 ≤ 8589934592 - x0
          · rw [if_pos h3]
            by_cases h4 : x2 ≥ 0
            · rw [if_pos h4]
              by_cases h5 : x2 ≤ 8589934592
              · rw [if_pos h5]
                by_cases h6 : n ≥ 0
                · rw [if_pos h6]
                  by_cases h7 : n ≤ 8589934592
                  · exact absurd ⟨h0, h1, h2, h3, h4, h5, h6, h7⟩ h
                  · rw [decide_eq_false h7]
                · rw [if_neg h6]
              · rw [if_neg h5]
            · rw [if_neg h4]
          · rw [if_neg h3]
        · rw [if_neg h2]
      · rw [if_neg h1]
    · rw [if_neg h0]

theorem shares_eq {x0 x1 x2 n : Int} (h : okTally x0 x1 x2 n) : pShares x0 x1 x2 n = some (R x0 (x0 + x1), R x2 n) := by
  obtain ⟨h0, h1, h2, h3, h4, h5, h6, h7⟩ := h
  unfold pShares
  rw [w64 (by omega) (by omega), ratio h0 h2 (by omega), Option.bind_some, ratio h4 h5 h6, Option.bind_some]

/-- Where in its decision a referendum stands, in parts of all. -/
def spot (e d : Int) : Int := R (min e d) d

theorem spot_in {e d : Int} (e0 : 0 ≤ e) (d1 : 1 ≤ d) : 0 ≤ spot e d ∧ spot e d ≤ 1000000000 := R_in (by omega) (by omega)

/-- As whole numbers have it. -/
theorem spot_eq {e d : Int} (e0 : 0 ≤ e) (d1 : 1 ≤ d) (d2 : d ≤ 1000) : spot e d = min e d * 1000000000 / d ∧ 0 ≤ min e d * 1000000000 / d ∧ min e d * 1000000000 / d ≤ 1000000000 := by
  have h1 : min e d * 1000000000 / d ≤ 1000000000 := by
    have h2 : min e d * 1000000000 ≤ 1000000000 * d := by omega
    have := div_mono (c := d) (by omega) h2
    rwa [Int.mul_ediv_cancel _ (by omega)] at this
  have h0 := Int.ediv_nonneg (a := min e d * 1000000000) (b := d) (by omega) (by omega)
  refine ⟨?_, h0, h1⟩
  unfold spot R
  rw [if_neg (by omega)]
  omega

/-- Does a tally pass? -/
def pass (a3 a6 a7 a8 a9 a10 a11 a12 a13 a14 a15 x0 x1 x2 n e : Int) : Prop :=
  C a6 a7 a8 a9 a10 (spot e a3) ≤ R x0 (x0 + x1) ∧ C a11 a12 a13 a14 a15 (spot e a3) ≤ R x2 n
instance (a3 a6 a7 a8 a9 a10 a11 a12 a13 a14 a15 x0 x1 x2 n e : Int) : Decidable (pass a3 a6 a7 a8 a9 a10 a11 a12 a13 a14 a15 x0 x1 x2 n e) := by unfold pass; infer_instance

theorem pPassing_eq {a0 a1 a2 a3 a4 a5 a6 a7 a8 a9 a10 a11 a12 a13 a14 a15 a16 a17 x0 x1 x2 n e : Int} (ok : okTrack a0 a1 a2 a3 a4 a5 a6 a7 a8 a9 a10 a11 a12 a13 a14 a15 a16 a17) (hx : okTally x0 x1 x2 n) (e0 : 0 ≤ e) :
    pPassing a0 a1 a2 a3 a4 a5 a6 a7 a8 a9 a10 a11 a12 a13 a14 a15 a16 a17 x0 x1 x2 n e = some (decide (pass a3 a6 a7 a8 a9 a10 a11 a12 a13 a14 a15 x0 x1 x2 n e)) := by
  obtain ⟨_, _, _, _, _, _, ⟨d1, d2⟩, okA, okS, _⟩ := ok
  have hs := spot_in e0 d1
  unfold pPassing
  rw [mn_eq, ratio (by omega) (by omega) (by omega), show R (min e a3) a3 = spot e a3 from rfl, Option.bind_some, shares_eq hx, Option.bind_some, at_eq _ okA, Option.bind_some, hold_of hs.1 hs.2, at_eq _ okS, Option.bind_some, hold_of hs.1 hs.2]
  show (if R x0 (x0 + x1) ≥ C a6 a7 a8 a9 a10 (spot e a3) then some (decide (R x2 n ≥ C a11 a12 a13 a14 a15 (spot e a3))) else some false) = _
  by_cases h : R x0 (x0 + x1) ≥ C a6 a7 a8 a9 a10 (spot e a3)
  · rw [if_pos h]; congr 1; rw [decide_eq_decide]; exact ⟨fun h2 => ⟨h, h2⟩, fun h2 => h2.2⟩
  · rw [if_neg h]; congr 1; symm; rw [decide_eq_false_iff_not]; exact fun h2 => h h2.1

end Go.Proofs.Ytpnjddolboahoaa.Math
