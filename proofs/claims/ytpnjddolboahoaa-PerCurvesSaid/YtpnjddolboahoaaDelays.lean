/- Where a curve is first as low as a number, by the program and by the reference: what each hands back. -/
import Derived.Test.YtpnjddolboahoaaSearch
import Derived.Test.YtpnjddolboahoaaRefAt
namespace Go.Proofs.Ytpnjddolboahoaa.Delays
open Go.RowKit Go.Proofs.YtpnjddolboahoaaW.PrintWords Go.Proofs.YtpnjddolboahoaaW.PrintLast Go.Proofs.YtpnjddolboahoaaW.PrintMore Go.Proofs.Ytpnjddolboahoaa.Math Go.Proofs.Ytpnjddolboahoaa.Q
attribute [local go_sem] max2_int min2_int max_two min_two
set_option linter.unusedVariables false
set_option linter.unusedSimpArgs false

theorem info23 : (Try.prog.info? 23).map (·.size) = some 5 := by kernel_rfl
theorem info25 : (Try.prog.info? 25).map (·.size) = some 18 := by kernel_rfl
theorem info29 : (Try.prog.info? 29).map (·.size) = some 3 := by kernel_rfl
theorem cmp_ {a b : Int} {w : World} (h : a = b) : Result.ok (Next.value (.bool (a == b))) w = Result.ok (Next.value (.bool true)) w := by rw [beq_iff_eq.mpr h]
theorem cmpd_ {p : Prop} [Decidable p] {w : World} (h : p) : Result.ok (Next.value (.bool (decide p))) w = Result.ok (Next.value (.bool true)) w := by rw [decide_eq_true h]
theorem cmpf_ {p : Prop} [Decidable p] {w : World} (h : ¬ p) : Result.ok (Next.value (.bool (decide p))) w = Result.ok (Next.value (.bool false)) w := by rw [decide_eq_false h]

/-- What is asked of a place. -/
def low (k a b c d y : Int) (x : Int) : Bool := decide (C k a b c d (hold x) ≤ y)

set_option maxHeartbeats 4000000 in
theorem closure_ (w0 : World) (cs ys : Array Value) (g1 g2 : Nat) (k a b c d y x : Int) (w : World) (hC : Aside0 (Cls w0 ((g2, ys, 3) :: (g1, cs, 23) :: []) w)) (HS_cs : Aside0 (cs.size = 5)) (HC_ys_0 : Aside0 (ys[0]? = some (.int .i64 y)))
    (HA : Aside0 (Rets Try.prog 37 #[.agg cs, .int .i64 x] (.int .i64 (C k a b c d (hold x))))) :
    Calls Try.prog 47 #[.int .i64 x, .pointer (some ⟨g1, 0, none⟩), .pointer (some ⟨g2, 0, none⟩)] w fun e w' => e = .returned (.bool (low k a b c d y x)) ∧ Cls w0 ((g2, ys, 3) :: (g1, cs, 23) :: []) w' := by
  obtain ⟨r, hr⟩ : ∃ r, low k a b c d y x = r := ⟨_, rfl⟩
  rw [hr]
  have HR := Aside0.mk hr
  clear hr
  go_enter Try.func47, Try.ntmps47
  go_upto_region 1 with (fail)
  refine wregion_q (C := Cls w0 ((g2, ys, 3) :: (g1, cs, 23) :: [])) (by kernel_rfl) (by kernel_rfl) (hC.out.drew) ?_
  refine wstep (N := some 5) (v := .agg cs) (a' := ?_) rfl (by rfl) (fun w' h => load_row (h.blk1) rfl rfl Try.underlying23 rfl (by rw [HS_cs.out]; exact info23)) ?_ ?_
  rotate_left
  · simp only [Act.put, List.setIfInBounds_toArray, List.set_cons_zero, List.set_cons_succ]
    rfl
  refine wstep (N := some 6) (v := .int .i64 x) (a' := ?_) rfl (by rfl) (fun w' _ => by go_simp) ?_ ?_
  rotate_left
  · simp only [Act.put, List.setIfInBounds_toArray, List.set_cons_zero, List.set_cons_succ]
    rfl
  refine wcall (N := some 7) (a' := ?_) (f := 37) Try.func37 (by kernel_rfl) rfl #[.agg cs, .int .i64 x] (by rfl) rfl rfl (by (try simp only [List.map_toArray, List.map_cons, List.map_nil]); first | done | rfl) (qcall_cls (v := .int .i64 (C k a b c d (hold x))) HA.out) ?_ ?_
  rotate_left
  · simp only [Act.put, List.setIfInBounds_toArray, List.set_cons_zero, List.set_cons_succ]
    rfl
  refine wstep (N := some 8) (v := .int .i64 y) (a' := ?_) rfl (by rfl) (fun w' h => load_cell (h.blk0) HC_ys_0.out rfl rfl Try.underlying3 rfl) ?_ ?_
  rotate_left
  · simp only [Act.put, List.setIfInBounds_toArray, List.set_cons_zero, List.set_cons_succ]
    rfl
  refine wstep (N := some 9) (v := .bool r) (a' := ?_) rfl (by rfl) (fun w' _ => by go_simp; exact HR.out) ?_ ?_
  rotate_left
  · simp only [Act.put, List.setIfInBounds_toArray, List.set_cons_zero, List.set_cons_succ]
    rfl
  refine wstep (N := some 4) (v := .bool r) (a' := ?_) rfl (by rfl) (fun w' _ => by go_simp) ?_ ?_
  rotate_left
  · simp only [Act.put, List.setIfInBounds_toArray, List.set_cons_zero, List.set_cons_succ]
    rfl
  refine wnil ?_
  intro w_h1 h1_
  have h1 := Aside0.mk h1_
  clear h1_
  go_wp2
  go_ret
  exact ⟨rfl, h1.out⟩

theorem put2i (w : World) (cs : Array Value) (y : Int) : Cls w ((w.heap.size + 1, #[.int .i64 y], 3) :: (w.heap.size, cs, 23) :: []) ((w.alloc (.cells cs 23 (0, 0))).alloc (.cells #[.int .i64 y] 3 (0, 0))) := Cls.put2 w _ _ _ _

set_option maxHeartbeats 4000000 in
theorem delay_ (cs : Array Value) (k a b c d y : Int) (HS_cs : Aside0 (cs.size = 5)) (HA : Aside0 (∀ x, Rets Try.prog 37 #[.agg cs, .int .i64 x] (.int .i64 (C k a b c d (hold x))))) :
    Rets Try.prog 39 #[.agg cs, .int .i64 y] (.int .i64 (bsN (low k a b c d y) 31 0 1000000000)) := fun w => by
  have HCl := Aside0.mk (put2i w cs y)
  have HF : Aside0 (∀ x w', Cls w ((w.heap.size + 1, #[.int .i64 y], 3) :: (w.heap.size, cs, 23) :: []) w' → Calls Try.prog 47 #[.int .i64 x, .pointer (some ⟨w.heap.size, 0, none⟩), .pointer (some ⟨w.heap.size + 1, 0, none⟩)] w' fun e w'' => e = .returned (.bool (low k a b c d y x)) ∧ Cls w ((w.heap.size + 1, #[.int .i64 y], 3) :: (w.heap.size, cs, 23) :: []) w'') :=
    ⟨fun x w' h => closure_ w cs #[.int .i64 y] _ _ k a b c d y x w' ⟨h⟩ HS_cs ⟨rfl⟩ ⟨HA.out x⟩⟩
  obtain ⟨R, hR⟩ : ∃ R, bsN (low k a b c d y) 31 0 1000000000 = R := ⟨_, rfl⟩
  rw [hR]
  have HR := Aside0.mk hR
  clear hR
  go_enter Try.func39, Try.ntmps39
  go_wp2_with (go_at_call 46; refine (Search.search_ w _ _ _ (low k a b c d y) HF _ HCl).mono ?_; rw [HR.out]; rintro e w1 ⟨rfl, hC1⟩; have HC1 := Aside0.mk hC1; clear hC1)
  go_ret
  exact ⟨rfl, HC1.out.below⟩

set_option maxHeartbeats 4000000 in
theorem rdelay_ (cs : Array Value) (k a b c d y : Int) (HS_cs : Aside0 (cs.size = 5)) (HA : Aside0 (∀ x, Rets Try.prog 29 #[.agg cs, .int .i64 x] (.int .i64 (C k a b c d (hold x))))) :
    Rets Try.prog 40 #[.agg cs, .int .i64 y] (.int .i64 (bsN (low k a b c d y) 31 0 1000000000)) := fun w => by
  have HCl : Aside0 (Cls w ((w.heap.size, cs, 23) :: []) (w.alloc (.cells cs 23 (0, 0)))) := ⟨(Cls.start w).put cs 23⟩
  obtain ⟨R, hR⟩ : ∃ R, bsN (low k a b c d y) 31 0 1000000000 = R := ⟨_, rfl⟩
  rw [hR]
  have HR := Aside0.mk hR
  clear hR
  go_enter Try.func40, Try.ntmps40
  go_wp2
  go_loopw [5, 6] (fun i j wr => ∃ (n : Nat) (lo hi : Int), i = .int .i64 lo ∧ j = .int .i64 hi ∧ 0 ≤ lo ∧ lo ≤ hi ∧ hi ≤ 1000000000 ∧ Aside0 (hi - lo < 2 ^ n) ∧ Aside0 (bsN (low k a b c d y) n lo hi = R) ∧ Aside0 (Cls w ((w.heap.size, cs, 23) :: []) wr)) (fun i j _ => (intOf j - intOf i).toNat)
  case atStart => exact ⟨31, 0, 1000000000, rfl, rfl, by omega, by omega, by omega, ⟨by decide⟩, HR, HCl⟩
  case round =>
    obtain ⟨n, lo, hi, rfl, rfl, h0, h1, h2, hk, hr, hc⟩ := hrel
    by_cases hlt : lo < hi
    · have hkk : Aside0 (∃ m, n = m + 1) := ⟨by
        rcases n with _ | m
        · have := hk.out; simp at this; omega
        · exact ⟨m, rfl⟩⟩
      cases hp : low k a b c d y ((lo + hi) / 2) with
      | true =>
        have HP := Aside0.mk hp
        clear hp
        go_upto_region 4 with (fail)
        refine wregion_p (C := Cls w ((w.heap.size, cs, 23) :: [])) (hc.out) ?_
        refine wstep (N := some 15) (v := .agg cs) (a' := ?_) rfl (by rfl) (fun w' h => load_row (h.blk0) rfl rfl Try.underlying23 rfl (by rw [HS_cs.out]; exact info23)) ?_ ?_
        rotate_left
        · simp only [Act.put, List.setIfInBounds_toArray, List.set_cons_zero, List.set_cons_succ]
          rfl
        refine wstep (N := some 16) (v := .int .i64 ((lo + hi) / 2)) (a' := ?_) rfl (by rfl) (fun w' _ => by go_simp) ?_ ?_
        rotate_left
        · simp only [Act.put, List.setIfInBounds_toArray, List.set_cons_zero, List.set_cons_succ]
          rfl
        refine wcall (N := some 17) (a' := ?_) (f := 29) Try.func29 (by kernel_rfl) rfl #[.agg cs, .int .i64 ((lo + hi) / 2)] (by rfl) rfl rfl (by (try simp only [List.map_toArray, List.map_cons, List.map_nil]); first | done | rfl) (qcall_cls (v := .int .i64 (C k a b c d (hold ((lo + hi) / 2)))) (HA.out ((lo + hi) / 2))) ?_ ?_
        rotate_left
        · simp only [Act.put, List.setIfInBounds_toArray, List.set_cons_zero, List.set_cons_succ]
          rfl
        refine wstep (N := some 18) (v := .int .i64 y) (a' := ?_) rfl (by rfl) (fun w' _ => by go_simp) ?_ ?_
        rotate_left
        · simp only [Act.put, List.setIfInBounds_toArray, List.set_cons_zero, List.set_cons_succ]
          rfl
        refine wstep (N := some 19) (v := .bool true) (a' := ?_) rfl (by rfl) (fun w' _ => by go_simp; first | exact of_decide_eq_true HP.out | (have h_ := of_decide_eq_false HP.out; omega)) ?_ ?_
        rotate_left
        · simp only [Act.put, List.setIfInBounds_toArray, List.set_cons_zero, List.set_cons_succ]
          rfl
        refine wnil ?_
        intro w_h4 h4_
        have h4 := Aside0.mk h4_
        clear h4_
        go_wp2
        go_roundw
        case rel =>
          obtain ⟨m, rfl⟩ := hkk.out
          have hr' := hr.out
          have hk' := hk.out
          rw [Int.pow_succ] at hk'
          unfold bsN at hr'
          rw [if_pos hlt, if_pos HP.out] at hr'
          exact ⟨m, lo, (lo + hi) / 2, rfl, rfl, by omega, by omega, by omega, ⟨by omega⟩, ⟨hr'⟩, h4⟩
        case measure => simp [intOf]; omega
      | false =>
        have HP := Aside0.mk hp
        clear hp
        go_upto_region 4 with (fail)
        refine wregion_p (C := Cls w ((w.heap.size, cs, 23) :: [])) (hc.out) ?_
        refine wstep (N := some 15) (v := .agg cs) (a' := ?_) rfl (by rfl) (fun w' h => load_row (h.blk0) rfl rfl Try.underlying23 rfl (by rw [HS_cs.out]; exact info23)) ?_ ?_
        rotate_left
        · simp only [Act.put, List.setIfInBounds_toArray, List.set_cons_zero, List.set_cons_succ]
          rfl
        refine wstep (N := some 16) (v := .int .i64 ((lo + hi) / 2)) (a' := ?_) rfl (by rfl) (fun w' _ => by go_simp) ?_ ?_
        rotate_left
        · simp only [Act.put, List.setIfInBounds_toArray, List.set_cons_zero, List.set_cons_succ]
          rfl
        refine wcall (N := some 17) (a' := ?_) (f := 29) Try.func29 (by kernel_rfl) rfl #[.agg cs, .int .i64 ((lo + hi) / 2)] (by rfl) rfl rfl (by (try simp only [List.map_toArray, List.map_cons, List.map_nil]); first | done | rfl) (qcall_cls (v := .int .i64 (C k a b c d (hold ((lo + hi) / 2)))) (HA.out ((lo + hi) / 2))) ?_ ?_
        rotate_left
        · simp only [Act.put, List.setIfInBounds_toArray, List.set_cons_zero, List.set_cons_succ]
          rfl
        refine wstep (N := some 18) (v := .int .i64 y) (a' := ?_) rfl (by rfl) (fun w' _ => by go_simp) ?_ ?_
        rotate_left
        · simp only [Act.put, List.setIfInBounds_toArray, List.set_cons_zero, List.set_cons_succ]
          rfl
        refine wstep (N := some 19) (v := .bool false) (a' := ?_) rfl (by rfl) (fun w' _ => by go_simp; first | exact of_decide_eq_true HP.out | (have h_ := of_decide_eq_false HP.out; omega)) ?_ ?_
        rotate_left
        · simp only [Act.put, List.setIfInBounds_toArray, List.set_cons_zero, List.set_cons_succ]
          rfl
        refine wnil ?_
        intro w_h4 h4_
        have h4 := Aside0.mk h4_
        clear h4_
        go_wp2
        go_roundw
        case rel =>
          obtain ⟨m, rfl⟩ := hkk.out
          have hr' := hr.out
          have hk' := hk.out
          rw [Int.pow_succ] at hk'
          unfold bsN at hr'
          rw [if_pos hlt, if_neg (by rw [HP.out]; simp)] at hr'
          exact ⟨m, (lo + hi) / 2 + 1, hi, rfl, rfl, by omega, by omega, by omega, ⟨by omega⟩, ⟨hr'⟩, h4⟩
        case measure => simp [intOf]; omega
    · go_wp2
      go_ret
      have hr' := hr.out
      rw [bsN_done (low k a b c d y) (show ¬ lo < hi by omega)] at hr'
      exact ⟨congrArg (fun z => Ending.returned (.int .i64 z)) hr', hc.out.below⟩

end Go.Proofs.Ytpnjddolboahoaa.Delays
