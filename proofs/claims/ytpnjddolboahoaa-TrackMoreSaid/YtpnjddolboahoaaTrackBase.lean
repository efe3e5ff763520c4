/- The callees of the laws on tracks: what each hands back. -/
import Derived.Test.YtpnjddolboahoaaPTrackStillx2
import Derived.Test.YtpnjddolboahoaaMathTrack
import Derived.Test.YtpnjddolboahoaaQ
namespace Go.Proofs.Ytpnjddolboahoaa.TrackBase
open Go.RowKit Go.Proofs.YtpnjddolboahoaaW.PrintWords Go.Proofs.YtpnjddolboahoaaW.PrintLast Go.Proofs.YtpnjddolboahoaaW.PrintMore Go.Proofs.Ytpnjddolboahoaa.Math Go.Proofs.Ytpnjddolboahoaa.Q
attribute [local go_sem] max2_int min2_int max_two min_two
set_option linter.unusedVariables false
set_option linter.unusedSimpArgs false


theorem erTI : PTrackStill.althingref10_Is.f = rTrackIs := rfl
theorem ePass : PTrackStill.track_Passing.f = pPassing := rfl
theorem eFits : PTrackStill.althinglaw10_fits.f = pFits := rfl
theorem known_ok : PTrackStill.althinglaw10_known.f = some true := by kernel_rfl
abbrev agg18 (cs0 cs1 cs2 cs3 cs4 cs5 cs6 cs7 cs8 cs9 cs10 cs11 cs12 cs13 cs14 cs15 cs16 cs17 : Int) : Value := .agg #[.int .i64 cs0, .int .i64 cs1, .int .i64 cs2, .int .i64 cs3, .int .i64 cs4, .int .i64 cs5, .int .i64 cs6, .int .i64 cs7, .int .i64 cs8, .int .i64 cs9, .int .i64 cs10, .int .i64 cs11, .int .i64 cs12, .int .i64 cs13, .int .i64 cs14, .int .i64 cs15, .int .i64 cs16, .int .i64 cs17]
abbrev agg3 (x0 x1 x2 : Int) : Value := .agg #[.int .i64 x0, .int .i64 x1, .int .i64 x2]

theorem is_ (cs0 cs1 cs2 cs3 cs4 cs5 cs6 cs7 cs8 cs9 cs10 cs11 cs12 cs13 cs14 cs15 cs16 cs17 : Int) {r : Bool} (h : decide (okTrack cs0 cs1 cs2 cs3 cs4 cs5 cs6 cs7 cs8 cs9 cs10 cs11 cs12 cs13 cs14 cs15 cs16 cs17) = r) : Rets Try.prog 22 #[agg18 cs0 cs1 cs2 cs3 cs4 cs5 cs6 cs7 cs8 cs9 cs10 cs11 cs12 cs13 cs14 cs15 cs16 cs17] (.bool r) := fun w =>
  (PTrackStill.althingref10_Is.calls cs0 cs1 cs2 cs3 cs4 cs5 cs6 cs7 cs8 cs9 cs10 cs11 cs12 cs13 cs14 cs15 cs16 cs17 r w (by rw [erTI, rTrackIs_eq, h])).mono fun _ _ h => h
theorem fits_ (x0 x1 x2 n : Int) {r : Bool} (h : decide (okTally x0 x1 x2 n) = r) : Rets Try.prog 24 #[agg3 x0 x1 x2, .int .i64 n] (.bool r) := fun w =>
  (PTrackStill.althinglaw10_fits.calls x0 x1 x2 n r w (by rw [eFits, pFits_eq, h])).mono fun _ _ h => h
theorem known_ : Rets Try.prog 23 #[] (.bool true) := fun w => (PTrackStill.althinglaw10_known.calls true w known_ok).mono fun _ _ h => h
theorem passing_ (cs0 cs1 cs2 cs3 cs4 cs5 cs6 cs7 cs8 cs9 cs10 cs11 cs12 cs13 cs14 cs15 cs16 cs17 x0 x1 x2 n e : Int) (ok : okTrack cs0 cs1 cs2 cs3 cs4 cs5 cs6 cs7 cs8 cs9 cs10 cs11 cs12 cs13 cs14 cs15 cs16 cs17) (hx : okTally x0 x1 x2 n) (e0 : 0 ≤ e) {r : Bool} (h : decide (pass cs3 cs6 cs7 cs8 cs9 cs10 cs11 cs12 cs13 cs14 cs15 x0 x1 x2 n e) = r) :
    Rets Try.prog 27 #[agg18 cs0 cs1 cs2 cs3 cs4 cs5 cs6 cs7 cs8 cs9 cs10 cs11 cs12 cs13 cs14 cs15 cs16 cs17, agg3 x0 x1 x2, .int .i64 n, .int .i64 e] (.bool r) := fun w =>
  (PTrackStill.track_Passing.calls cs0 cs1 cs2 cs3 cs4 cs5 cs6 cs7 cs8 cs9 cs10 cs11 cs12 cs13 cs14 cs15 cs16 cs17 x0 x1 x2 n e r w (by rw [ePass, pPassing_eq ok hx e0, h])).mono fun _ _ h => h

theorem partA (cs0 cs1 cs2 cs3 cs4 cs5 cs6 cs7 cs8 cs9 cs10 cs11 cs12 cs13 cs14 cs15 cs16 cs17 : Int) : ∀ (j : Nat) (v : Value), (#[.int .i64 cs6, .int .i64 cs7, .int .i64 cs8, .int .i64 cs9, .int .i64 cs10] : Array Value)[j]? = some v → (#[.int .i64 cs0, .int .i64 cs1, .int .i64 cs2, .int .i64 cs3, .int .i64 cs4, .int .i64 cs5, .int .i64 cs6, .int .i64 cs7, .int .i64 cs8, .int .i64 cs9, .int .i64 cs10, .int .i64 cs11, .int .i64 cs12, .int .i64 cs13, .int .i64 cs14, .int .i64 cs15, .int .i64 cs16, .int .i64 cs17] : Array Value)[6 + j]? = some v
  | 0, _, h => h
  | 1, _, h => h
  | 2, _, h => h
  | 3, _, h => h
  | 4, _, h => h
  | n + 5, _, h => by simp at h
theorem partS (cs0 cs1 cs2 cs3 cs4 cs5 cs6 cs7 cs8 cs9 cs10 cs11 cs12 cs13 cs14 cs15 cs16 cs17 : Int) : ∀ (j : Nat) (v : Value), (#[.int .i64 cs11, .int .i64 cs12, .int .i64 cs13, .int .i64 cs14, .int .i64 cs15] : Array Value)[j]? = some v → (#[.int .i64 cs0, .int .i64 cs1, .int .i64 cs2, .int .i64 cs3, .int .i64 cs4, .int .i64 cs5, .int .i64 cs6, .int .i64 cs7, .int .i64 cs8, .int .i64 cs9, .int .i64 cs10, .int .i64 cs11, .int .i64 cs12, .int .i64 cs13, .int .i64 cs14, .int .i64 cs15, .int .i64 cs16, .int .i64 cs17] : Array Value)[11 + j]? = some v
  | 0, _, h => h
  | 1, _, h => h
  | 2, _, h => h
  | 3, _, h => h
  | 4, _, h => h
  | n + 5, _, h => by simp at h
/-- The place in its decision, as the code has it. -/
theorem at_raw {e d : Int} (e0 : 0 ≤ e) (d1 : 1 ≤ d) (d2 : d ≤ 1000) : wrap64 (Int.tdiv (wrap64 ((mn e d) * 1000000000)) d) = spot e d ∧ hold (wrap64 (Int.tdiv (wrap64 ((mn e d) * 1000000000)) d)) = spot e d := by
  obtain ⟨h1, h2, h3⟩ := spot_eq e0 d1 d2
  have h4 : wrap64 (Int.tdiv (wrap64 ((mn e d) * 1000000000)) d) = spot e d := by
    rw [mn_eq, w64 (n := min e d * 1000000000) (by omega) (by omega), td (by omega), w64 (by omega) (by omega), h1]
  refine ⟨h4, ?_⟩
  rw [h4, hold_of (by omega) (by omega)]

end Go.Proofs.Ytpnjddolboahoaa.TrackBase
