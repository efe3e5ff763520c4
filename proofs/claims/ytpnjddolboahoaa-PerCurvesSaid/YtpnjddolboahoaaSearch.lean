/- A search by halves in the library's text: it finds what the plain search finds, whatever it is asked with, as long as what it asks answers and leaves given blocks alone. -/
import Derived.Test.YtpnjddolboahoaaPPerFallsx2
import Derived.Test.YtpnjddolboahoaaMathSearch
import Derived.Test.YtpnjddolboahoaaQ2
import Derived.IntWalk
namespace Go.Proofs.Ytpnjddolboahoaa.Search
open Go.RowKit Go.Proofs.YtpnjddolboahoaaW.PrintWords Go.Proofs.YtpnjddolboahoaaW.PrintLast Go.Proofs.YtpnjddolboahoaaW.PrintMore Go.Proofs.Ytpnjddolboahoaa.Math Go.Proofs.Ytpnjddolboahoaa.Q
set_option linter.unusedVariables false

set_option maxHeartbeats 1000000 in
theorem search_ (w0 : World) (L : List (Nat × Array Value × TypeId)) (p1 p2 : Value) (pr : Int → Bool) (hf : Aside0 (∀ x w, Cls w0 L w → Calls Try.prog 47 #[.int .i64 x, p1, p2] w fun e w' => e = .returned (.bool (pr x)) ∧ Cls w0 L w')) (w : World) (hC : Aside0 (Cls w0 L w)) :
   Calls Try.prog 46 #[.int .i64 1000000000, .func (.func 47) #[] #[p1, p2]] w fun e w' => e = .returned (.int .i64 (bsN pr 31 0 1000000000)) ∧ Cls w0 L w' := by
  obtain ⟨R, hR⟩ : ∃ R, bsN pr 31 0 1000000000 = R := ⟨_, rfl⟩
  rw [hR]
  have HR := Aside0.mk hR
  clear hR
  go_enter Try.func46, Try.ntmps46
  go_wp2
  go_loopw [5, 6] (fun i j wr => ∃ (k : Nat) (lo hi : Int), i = .int .i64 lo ∧ j = .int .i64 hi ∧ 0 ≤ lo ∧ lo ≤ hi ∧ hi ≤ 1000000000 ∧ Aside0 (hi - lo < 2 ^ k) ∧ Aside0 (bsN pr k lo hi = R) ∧ Aside0 (Cls w0 L wr)) (fun i j _ => (intOf j - intOf i).toNat)
  case atStart => exact ⟨31, 0, 1000000000, rfl, rfl, by omega, by omega, by omega, ⟨by decide⟩, HR, hC⟩
  case round =>
    obtain ⟨k, lo, hi, rfl, rfl, h0, h1, h2, hk, hr, hc⟩ := hrel
    by_cases hlt : lo < hi
    · have hF := Aside0.mk (hf.out ((lo + hi) / 2) wr hc.out)
      have hkk : Aside0 (∃ m, k = m + 1) := ⟨by
        rcases k with _ | m
        · have := hk.out; simp at this; omega
        · exact ⟨m, rfl⟩⟩
      cases hp : pr ((lo + hi) / 2) with
      | true =>
        rw [hp] at hF
        have HP := Aside0.mk hp
        clear hp
        go_wp2_with (go_at_call 47; refine hF.out.mono ?_; rintro e w1 ⟨rfl, hC1⟩; have HC1 := Aside0.mk hC1; clear hC1)
        go_roundw
        case rel =>
          obtain ⟨m, rfl⟩ := hkk.out
          have hr' := hr.out
          have hk' := hk.out
          rw [Int.pow_succ] at hk'
          unfold bsN at hr'
          rw [if_pos hlt, if_pos HP.out] at hr'
          exact ⟨m, lo, (lo + hi) / 2, rfl, rfl, by omega, by omega, by omega, ⟨by omega⟩, ⟨hr'⟩, HC1⟩
        case measure => simp [intOf]; omega
      | false =>
        rw [hp] at hF
        have HP := Aside0.mk hp
        clear hp
        go_wp2_with (go_at_call 47; refine hF.out.mono ?_; rintro e w1 ⟨rfl, hC1⟩; have HC1 := Aside0.mk hC1; clear hC1)
        go_roundw
        case rel =>
          obtain ⟨m, rfl⟩ := hkk.out
          have hr' := hr.out
          have hk' := hk.out
          rw [Int.pow_succ] at hk'
          unfold bsN at hr'
          rw [if_pos hlt, if_neg (by rw [HP.out]; simp)] at hr'
          exact ⟨m, (lo + hi) / 2 + 1, hi, rfl, rfl, by omega, by omega, by omega, ⟨by omega⟩, ⟨hr'⟩, HC1⟩
        case measure => simp [intOf]; omega
    · go_wp2
      go_ret
      have hr' := hr.out
      rw [bsN_done pr (show ¬ lo < hi by omega)] at hr'
      exact ⟨congrArg (fun z => Ending.returned (.int .i64 z)) hr', hc.out⟩
end Go.Proofs.Ytpnjddolboahoaa.Search
