/- The reference of a curve's height: what it hands back at each kind of curve. -/
import Derived.Test.YtpnjddolboahoaaPPerFallsx2
import Derived.Test.YtpnjddolboahoaaMathIs
import Derived.Test.YtpnjddolboahoaaQ
namespace Go.Proofs.Ytpnjddolboahoaa.RefAt
open Go.RowKit Go.Proofs.YtpnjddolboahoaaW.PrintWords Go.Proofs.YtpnjddolboahoaaW.PrintLast Go.Proofs.YtpnjddolboahoaaW.PrintMore Go.Proofs.Ytpnjddolboahoaa.Math Go.Proofs.Ytpnjddolboahoaa.Q
attribute [local go_sem] max2_int min2_int max_two min_two
set_option linter.unusedVariables false
set_option linter.unusedSimpArgs false

theorem info23 : (Try.prog.info? 23).map (·.size) = some 5 := by kernel_rfl
theorem info25 : (Try.prog.info? 25).map (·.size) = some 18 := by kernel_rfl
theorem info29 : (Try.prog.info? 29).map (·.size) = some 3 := by kernel_rfl
theorem cmp_ {a b : Int} {w : World} (h : a = b) : Result.ok (Next.value (.bool (a == b))) w = Result.ok (Next.value (.bool true)) w := by rw [beq_iff_eq.mpr h]
theorem cmpd_ {p : Prop} [Decidable p] {w : World} (h : p) : Result.ok (Next.value (.bool (decide p))) w = Result.ok (Next.value (.bool true)) w := by rw [decide_eq_true h]
theorem cmpf_ {p : Prop} [Decidable p] {w : World} (h : ¬ p) : Result.ok (Next.value (.bool (decide p))) w = Result.ok (Next.value (.bool false)) w := by rw [decide_eq_false h]

set_option maxHeartbeats 4000000 in
set_option maxRecDepth 100000 in
theorem lin_far (cs : Array Value) (x : Int) (k a b c d : Int) (r : Int) (w : World) (HS_cs : Aside0 (cs.size = 5)) (HC_cs_0 : Aside0 (cs[0]? = some (.int .i64 k))) (HC_cs_2 : Aside0 (cs[2]? = some (.int .i64 b))) (HC_cs_3 : Aside0 (cs[3]? = some (.int .i64 c)))
    (P0 : Aside0 (k = 1))
    (P1 : Aside0 (mn (mx x 0) 1000000000 ≥ c))
    (hE : Aside0 (b = r)) :
    Calls Try.prog 29 #[.agg cs, .int .i64 x] w fun e w' => e = .returned (.int .i64 r) ∧ Below w.heap.size w w' := by
  have HCl : Aside0 (Cls w ((w.heap.size, cs, 23) :: []) (w.alloc (.cells cs 23 (0, 0)))) := ⟨(Cls.start w).put _ _⟩
  go_enter Try.func29, Try.ntmps29
  go_upto_region 1 with (fail)
  refine region_p (C := Cls w ((w.heap.size, cs, 23) :: [])) (HCl.out) ?_
  refine qstep (N := some 5) (v := .int .i64 x) (a' := ?_) rfl (by rfl) (fun w' _ => by go_simp) ?_ ?_
  rotate_left
  · simp only [Act.put, List.setIfInBounds_toArray, List.set_cons_zero, List.set_cons_succ]
    rfl
  refine qstep (N := some 6) (v := .int .i64 (mx x 0)) (a' := ?_) rfl (by rfl) (fun w' _ => by go_simp <;> rfl) ?_ ?_
  rotate_left
  · simp only [Act.put, List.setIfInBounds_toArray, List.set_cons_zero, List.set_cons_succ]
    rfl
  refine qstep (N := some 7) (v := .int .i64 (mn (mx x 0) 1000000000)) (a' := ?_) rfl (by rfl) (fun w' _ => by go_simp <;> rfl) ?_ ?_
  rotate_left
  · simp only [Act.put, List.setIfInBounds_toArray, List.set_cons_zero, List.set_cons_succ]
    rfl
  refine qstep (N := some 1) (v := .int .i64 (mn (mx x 0) 1000000000)) (a' := ?_) rfl (by rfl) (fun w' _ => by go_simp) ?_ ?_
  rotate_left
  · simp only [Act.put, List.setIfInBounds_toArray, List.set_cons_zero, List.set_cons_succ]
    rfl
  refine wpQuiet_nil ?_
  intro w_ h1_
  have h1 := Aside0.mk h1_
  clear h1_
  go_upto_region 2 with (fail)
  refine region_p (C := Cls w ((w.heap.size, cs, 23) :: [])) (h1.out) ?_
  refine qstep (N := some 8) (v := .pointer (some ⟨w.heap.size, 0, none⟩)) (a' := ?_) rfl (by rfl) (fun w' _ => by go_simp) ?_ ?_
  rotate_left
  · simp only [Act.put, List.setIfInBounds_toArray, List.set_cons_zero, List.set_cons_succ]
    rfl
  refine qstep (N := some 9) (v := .int .i64 k) (a' := ?_) rfl (by rfl) (fun w' h => load_cell (h.blk0) HC_cs_0.out rfl rfl Try.underlying3 rfl) ?_ ?_
  rotate_left
  · simp only [Act.put, List.setIfInBounds_toArray, List.set_cons_zero, List.set_cons_succ]
    rfl
  refine wpQuiet_nil ?_
  intro w_ h2_
  have h2 := Aside0.mk h2_
  clear h2_
  go_upto_region 3 with (fail)
  refine region_p (C := Cls w ((w.heap.size, cs, 23) :: [])) (h2.out) ?_
  refine qstep (N := some 11) (v := .bool true) (a' := ?_) rfl (by rfl) (fun w' _ => by go_simp; (try simp only [i64_w]); first | exact P0.out | (have h_ := P0.out; omega) | exact cmp_ P0.out | exact cmpd_ P0.out | exact cmpf_ P0.out) ?_ ?_
  rotate_left
  · simp only [Act.put, List.setIfInBounds_toArray, List.set_cons_zero, List.set_cons_succ]
    rfl
  refine qstep (N := some 10) (v := .bool true) (a' := ?_) rfl (by rfl) (fun w' _ => by go_simp) ?_ ?_
  rotate_left
  · simp only [Act.put, List.setIfInBounds_toArray, List.set_cons_zero, List.set_cons_succ]
    rfl
  refine wpQuiet_nil ?_
  intro w_ h3_
  have h3 := Aside0.mk h3_
  clear h3_
  go_upto_region 4 with (fail)
  refine region_p (C := Cls w ((w.heap.size, cs, 23) :: [])) (h3.out) ?_
  refine qstep (N := some 12) (v := .int .i64 (mn (mx x 0) 1000000000)) (a' := ?_) rfl (by rfl) (fun w' _ => by go_simp) ?_ ?_
  rotate_left
  · simp only [Act.put, List.setIfInBounds_toArray, List.set_cons_zero, List.set_cons_succ]
    rfl
  refine qstep (N := some 13) (v := .pointer (some ⟨w.heap.size, 3, none⟩)) (a' := ?_) rfl (by rfl) (fun w' _ => by go_simp) ?_ ?_
  rotate_left
  · simp only [Act.put, List.setIfInBounds_toArray, List.set_cons_zero, List.set_cons_succ]
    rfl
  refine qstep (N := some 14) (v := .int .i64 c) (a' := ?_) rfl (by rfl) (fun w' h => load_cell (h.blk0) HC_cs_3.out rfl rfl Try.underlying3 rfl) ?_ ?_
  rotate_left
  · simp only [Act.put, List.setIfInBounds_toArray, List.set_cons_zero, List.set_cons_succ]
    rfl
  refine qstep (N := some 15) (v := .bool true) (a' := ?_) rfl (by rfl) (fun w' _ => by go_simp; (try simp only [i64_w]); first | exact P1.out | (have h_ := P1.out; omega) | exact cmp_ P1.out | exact cmpd_ P1.out | exact cmpf_ P1.out) ?_ ?_
  rotate_left
  · simp only [Act.put, List.setIfInBounds_toArray, List.set_cons_zero, List.set_cons_succ]
    rfl
  refine wpQuiet_nil ?_
  intro w_ h4_
  have h4 := Aside0.mk h4_
  clear h4_
  go_upto_region 5 with (fail)
  refine region_p (C := Cls w ((w.heap.size, cs, 23) :: [])) (h4.out) ?_
  refine qstep (N := some 16) (v := .pointer (some ⟨w.heap.size, 2, none⟩)) (a' := ?_) rfl (by rfl) (fun w' _ => by go_simp) ?_ ?_
  rotate_left
  · simp only [Act.put, List.setIfInBounds_toArray, List.set_cons_zero, List.set_cons_succ]
    rfl
  refine qstep (N := some 17) (v := .int .i64 b) (a' := ?_) rfl (by rfl) (fun w' h => load_cell (h.blk0) HC_cs_2.out rfl rfl Try.underlying3 rfl) ?_ ?_
  rotate_left
  · simp only [Act.put, List.setIfInBounds_toArray, List.set_cons_zero, List.set_cons_succ]
    rfl
  refine qstep (N := some 4) (v := .int .i64 b) (a' := ?_) rfl (by rfl) (fun w' _ => by go_simp) ?_ ?_
  rotate_left
  · simp only [Act.put, List.setIfInBounds_toArray, List.set_cons_zero, List.set_cons_succ]
    rfl
  refine wpQuiet_nil ?_
  intro w_ h5_
  have h5 := Aside0.mk h5_
  clear h5_
  go_wp2
  go_ret
  exact ⟨(congrArg (fun z => Ending.returned (.int .i64 z)) hE.out), h5.out.below⟩

set_option maxHeartbeats 4000000 in
set_option maxRecDepth 100000 in
theorem lin_near (cs : Array Value) (x : Int) (k a b c d : Int) (r : Int) (w : World) (HS_cs : Aside0 (cs.size = 5)) (HC_cs_0 : Aside0 (cs[0]? = some (.int .i64 k))) (HC_cs_1 : Aside0 (cs[1]? = some (.int .i64 a))) (HC_cs_2 : Aside0 (cs[2]? = some (.int .i64 b))) (HC_cs_3 : Aside0 (cs[3]? = some (.int .i64 c)))
    (P0 : Aside0 (k = 1))
    (P1 : Aside0 (¬ (mn (mx x 0) 1000000000 ≥ c)))
    (nz : Aside0 (¬ c = 0))
    (hE : Aside0 (wrap64 (a - (wrap64 (Int.tdiv (wrap64 ((wrap64 (a - b)) * (mn (mx x 0) 1000000000))) c))) = r)) :
    Calls Try.prog 29 #[.agg cs, .int .i64 x] w fun e w' => e = .returned (.int .i64 r) ∧ Below w.heap.size w w' := by
  have HCl : Aside0 (Cls w ((w.heap.size, cs, 23) :: []) (w.alloc (.cells cs 23 (0, 0)))) := ⟨(Cls.start w).put _ _⟩
  go_enter Try.func29, Try.ntmps29
  go_upto_region 1 with (fail)
  refine region_p (C := Cls w ((w.heap.size, cs, 23) :: [])) (HCl.out) ?_
  refine qstep (N := some 5) (v := .int .i64 x) (a' := ?_) rfl (by rfl) (fun w' _ => by go_simp) ?_ ?_
  rotate_left
  · simp only [Act.put, List.setIfInBounds_toArray, List.set_cons_zero, List.set_cons_succ]
    rfl
  refine qstep (N := some 6) (v := .int .i64 (mx x 0)) (a' := ?_) rfl (by rfl) (fun w' _ => by go_simp <;> rfl) ?_ ?_
  rotate_left
  · simp only [Act.put, List.setIfInBounds_toArray, List.set_cons_zero, List.set_cons_succ]
    rfl
  refine qstep (N := some 7) (v := .int .i64 (mn (mx x 0) 1000000000)) (a' := ?_) rfl (by rfl) (fun w' _ => by go_simp <;> rfl) ?_ ?_
  rotate_left
  · simp only [Act.put, List.setIfInBounds_toArray, List.set_cons_zero, List.set_cons_succ]
    rfl
  refine qstep (N := some 1) (v := .int .i64 (mn (mx x 0) 1000000000)) (a' := ?_) rfl (by rfl) (fun w' _ => by go_simp) ?_ ?_
  rotate_left
  · simp only [Act.put, List.setIfInBounds_toArray, List.set_cons_zero, List.set_cons_succ]
    rfl
  refine wpQuiet_nil ?_
  intro w_ h1_
  have h1 := Aside0.mk h1_
  clear h1_
  go_upto_region 2 with (fail)
  refine region_p (C := Cls w ((w.heap.size, cs, 23) :: [])) (h1.out) ?_
  refine qstep (N := some 8) (v := .pointer (some ⟨w.heap.size, 0, none⟩)) (a' := ?_) rfl (by rfl) (fun w' _ => by go_simp) ?_ ?_
  rotate_left
  · simp only [Act.put, List.setIfInBounds_toArray, List.set_cons_zero, List.set_cons_succ]
    rfl
  refine qstep (N := some 9) (v := .int .i64 k) (a' := ?_) rfl (by rfl) (fun w' h => load_cell (h.blk0) HC_cs_0.out rfl rfl Try.underlying3 rfl) ?_ ?_
  rotate_left
  · simp only [Act.put, List.setIfInBounds_toArray, List.set_cons_zero, List.set_cons_succ]
    rfl
  refine wpQuiet_nil ?_
  intro w_ h2_
  have h2 := Aside0.mk h2_
  clear h2_
  go_upto_region 3 with (fail)
  refine region_p (C := Cls w ((w.heap.size, cs, 23) :: [])) (h2.out) ?_
  refine qstep (N := some 11) (v := .bool true) (a' := ?_) rfl (by rfl) (fun w' _ => by go_simp; (try simp only [i64_w]); first | exact P0.out | (have h_ := P0.out; omega) | exact cmp_ P0.out | exact cmpd_ P0.out | exact cmpf_ P0.out) ?_ ?_
  rotate_left
  · simp only [Act.put, List.setIfInBounds_toArray, List.set_cons_zero, List.set_cons_succ]
    rfl
  refine qstep (N := some 10) (v := .bool true) (a' := ?_) rfl (by rfl) (fun w' _ => by go_simp) ?_ ?_
  rotate_left
  · simp only [Act.put, List.setIfInBounds_toArray, List.set_cons_zero, List.set_cons_succ]
    rfl
  refine wpQuiet_nil ?_
  intro w_ h3_
  have h3 := Aside0.mk h3_
  clear h3_
  go_upto_region 4 with (fail)
  refine region_p (C := Cls w ((w.heap.size, cs, 23) :: [])) (h3.out) ?_
  refine qstep (N := some 12) (v := .int .i64 (mn (mx x 0) 1000000000)) (a' := ?_) rfl (by rfl) (fun w' _ => by go_simp) ?_ ?_
  rotate_left
  · simp only [Act.put, List.setIfInBounds_toArray, List.set_cons_zero, List.set_cons_succ]
    rfl
  refine qstep (N := some 13) (v := .pointer (some ⟨w.heap.size, 3, none⟩)) (a' := ?_) rfl (by rfl) (fun w' _ => by go_simp) ?_ ?_
  rotate_left
  · simp only [Act.put, List.setIfInBounds_toArray, List.set_cons_zero, List.set_cons_succ]
    rfl
  refine qstep (N := some 14) (v := .int .i64 c) (a' := ?_) rfl (by rfl) (fun w' h => load_cell (h.blk0) HC_cs_3.out rfl rfl Try.underlying3 rfl) ?_ ?_
  rotate_left
  · simp only [Act.put, List.setIfInBounds_toArray, List.set_cons_zero, List.set_cons_succ]
    rfl
  refine qstep (N := some 15) (v := .bool false) (a' := ?_) rfl (by rfl) (fun w' _ => by go_simp; (try simp only [i64_w]); first | exact P1.out | (have h_ := P1.out; omega) | exact cmp_ P1.out | exact cmpd_ P1.out | exact cmpf_ P1.out) ?_ ?_
  rotate_left
  · simp only [Act.put, List.setIfInBounds_toArray, List.set_cons_zero, List.set_cons_succ]
    rfl
  refine wpQuiet_nil ?_
  intro w_ h4_
  have h4 := Aside0.mk h4_
  clear h4_
  go_upto_region 6 with (fail)
  refine region_q (C := Cls w ((w.heap.size, cs, 23) :: [])) (by kernel_rfl) (by kernel_rfl) (h4.out.drew) ?_
  refine qstep (N := some 18) (v := .pointer (some ⟨w.heap.size, 1, none⟩)) (a' := ?_) rfl (by rfl) (fun w' _ => by go_simp) ?_ ?_
  rotate_left
  · simp only [Act.put, List.setIfInBounds_toArray, List.set_cons_zero, List.set_cons_succ]
    rfl
  refine qstep (N := some 19) (v := .int .i64 a) (a' := ?_) rfl (by rfl) (fun w' h => load_cell (h.blk0) HC_cs_1.out rfl rfl Try.underlying3 rfl) ?_ ?_
  rotate_left
  · simp only [Act.put, List.setIfInBounds_toArray, List.set_cons_zero, List.set_cons_succ]
    rfl
  refine qstep (N := some 20) (v := .pointer (some ⟨w.heap.size, 1, none⟩)) (a' := ?_) rfl (by rfl) (fun w' _ => by go_simp) ?_ ?_
  rotate_left
  · simp only [Act.put, List.setIfInBounds_toArray, List.set_cons_zero, List.set_cons_succ]
    rfl
  refine qstep (N := some 21) (v := .int .i64 a) (a' := ?_) rfl (by rfl) (fun w' h => load_cell (h.blk0) HC_cs_1.out rfl rfl Try.underlying3 rfl) ?_ ?_
  rotate_left
  · simp only [Act.put, List.setIfInBounds_toArray, List.set_cons_zero, List.set_cons_succ]
    rfl
  refine qstep (N := some 22) (v := .pointer (some ⟨w.heap.size, 2, none⟩)) (a' := ?_) rfl (by rfl) (fun w' _ => by go_simp) ?_ ?_
  rotate_left
  · simp only [Act.put, List.setIfInBounds_toArray, List.set_cons_zero, List.set_cons_succ]
    rfl
  refine qstep (N := some 23) (v := .int .i64 b) (a' := ?_) rfl (by rfl) (fun w' h => load_cell (h.blk0) HC_cs_2.out rfl rfl Try.underlying3 rfl) ?_ ?_
  rotate_left
  · simp only [Act.put, List.setIfInBounds_toArray, List.set_cons_zero, List.set_cons_succ]
    rfl
  refine qstep (N := some 24) (v := .int .i64 (wrap64 (a - b))) (a' := ?_) rfl (by rfl) (fun w' _ => by go_simp <;> simp only [i64_w]) ?_ ?_
  rotate_left
  · simp only [Act.put, List.setIfInBounds_toArray, List.set_cons_zero, List.set_cons_succ]
    rfl
  refine qstep (N := some 25) (v := .int .i64 (mn (mx x 0) 1000000000)) (a' := ?_) rfl (by rfl) (fun w' _ => by go_simp) ?_ ?_
  rotate_left
  · simp only [Act.put, List.setIfInBounds_toArray, List.set_cons_zero, List.set_cons_succ]
    rfl
  refine qstep (N := some 26) (v := .int .i64 (wrap64 ((wrap64 (a - b)) * (mn (mx x 0) 1000000000)))) (a' := ?_) rfl (by rfl) (fun w' _ => by go_simp <;> simp only [i64_w]) ?_ ?_
  rotate_left
  · simp only [Act.put, List.setIfInBounds_toArray, List.set_cons_zero, List.set_cons_succ]
    rfl
  refine qstep (N := some 27) (v := .pointer (some ⟨w.heap.size, 3, none⟩)) (a' := ?_) rfl (by rfl) (fun w' _ => by go_simp) ?_ ?_
  rotate_left
  · simp only [Act.put, List.setIfInBounds_toArray, List.set_cons_zero, List.set_cons_succ]
    rfl
  refine qstep (N := some 28) (v := .int .i64 c) (a' := ?_) rfl (by rfl) (fun w' h => load_cell (h.blk0) HC_cs_3.out rfl rfl Try.underlying3 rfl) ?_ ?_
  rotate_left
  · simp only [Act.put, List.setIfInBounds_toArray, List.set_cons_zero, List.set_cons_succ]
    rfl
  refine qstep (N := some 29) (v := .int .i64 (wrap64 (Int.tdiv (wrap64 ((wrap64 (a - b)) * (mn (mx x 0) 1000000000))) c))) (a' := ?_) rfl (by rfl) (fun w' _ => by go_simp; (try simp only [i64_w]); first | done | (rw [if_neg nz.out]; done) | (rw [if_neg nz.out]; simp only [i64_w])) ?_ ?_
  rotate_left
  · simp only [Act.put, List.setIfInBounds_toArray, List.set_cons_zero, List.set_cons_succ]
    rfl
  refine qstep (N := some 30) (v := .int .i64 (wrap64 (a - (wrap64 (Int.tdiv (wrap64 ((wrap64 (a - b)) * (mn (mx x 0) 1000000000))) c))))) (a' := ?_) rfl (by rfl) (fun w' _ => by go_simp <;> simp only [i64_w]) ?_ ?_
  rotate_left
  · simp only [Act.put, List.setIfInBounds_toArray, List.set_cons_zero, List.set_cons_succ]
    rfl
  refine qstep (N := some 4) (v := .int .i64 (wrap64 (a - (wrap64 (Int.tdiv (wrap64 ((wrap64 (a - b)) * (mn (mx x 0) 1000000000))) c))))) (a' := ?_) rfl (by rfl) (fun w' _ => by go_simp) ?_ ?_
  rotate_left
  · simp only [Act.put, List.setIfInBounds_toArray, List.set_cons_zero, List.set_cons_succ]
    rfl
  refine wpQuiet_nil ?_
  intro w_ h6_
  have h6 := Aside0.mk h6_
  clear h6_
  go_wp2
  go_ret
  exact ⟨(congrArg (fun z => Ending.returned (.int .i64 z)) hE.out), h6.out.below⟩

set_option maxHeartbeats 4000000 in
set_option maxRecDepth 100000 in
theorem step (cs : Array Value) (x : Int) (k a b c d : Int) (r : Int) (w : World) (HS_cs : Aside0 (cs.size = 5)) (HC_cs_0 : Aside0 (cs[0]? = some (.int .i64 k))) (HC_cs_1 : Aside0 (cs[1]? = some (.int .i64 a))) (HC_cs_2 : Aside0 (cs[2]? = some (.int .i64 b))) (HC_cs_3 : Aside0 (cs[3]? = some (.int .i64 c))) (HC_cs_4 : Aside0 (cs[4]? = some (.int .i64 d)))
    (P0 : Aside0 (¬ (k = 1)))
    (P1 : Aside0 (k = 2))
    (nz : Aside0 (¬ d = 0))
    (hE : Aside0 (mx b (wrap64 (a - (wrap64 (c * (wrap64 (Int.tdiv (mn (mx x 0) 1000000000) d)))))) = r)) :
    Calls Try.prog 29 #[.agg cs, .int .i64 x] w fun e w' => e = .returned (.int .i64 r) ∧ Below w.heap.size w w' := by
  have HCl : Aside0 (Cls w ((w.heap.size, cs, 23) :: []) (w.alloc (.cells cs 23 (0, 0)))) := ⟨(Cls.start w).put _ _⟩
  go_enter Try.func29, Try.ntmps29
  go_upto_region 1 with (fail)
  refine region_p (C := Cls w ((w.heap.size, cs, 23) :: [])) (HCl.out) ?_
  refine qstep (N := some 5) (v := .int .i64 x) (a' := ?_) rfl (by rfl) (fun w' _ => by go_simp) ?_ ?_
  rotate_left
  · simp only [Act.put, List.setIfInBounds_toArray, List.set_cons_zero, List.set_cons_succ]
    rfl
  refine qstep (N := some 6) (v := .int .i64 (mx x 0)) (a' := ?_) rfl (by rfl) (fun w' _ => by go_simp <;> rfl) ?_ ?_
  rotate_left
  · simp only [Act.put, List.setIfInBounds_toArray, List.set_cons_zero, List.set_cons_succ]
    rfl
  refine qstep (N := some 7) (v := .int .i64 (mn (mx x 0) 1000000000)) (a' := ?_) rfl (by rfl) (fun w' _ => by go_simp <;> rfl) ?_ ?_
  rotate_left
  · simp only [Act.put, List.setIfInBounds_toArray, List.set_cons_zero, List.set_cons_succ]
    rfl
  refine qstep (N := some 1) (v := .int .i64 (mn (mx x 0) 1000000000)) (a' := ?_) rfl (by rfl) (fun w' _ => by go_simp) ?_ ?_
  rotate_left
  · simp only [Act.put, List.setIfInBounds_toArray, List.set_cons_zero, List.set_cons_succ]
    rfl
  refine wpQuiet_nil ?_
  intro w_ h1_
  have h1 := Aside0.mk h1_
  clear h1_
  go_upto_region 2 with (fail)
  refine region_p (C := Cls w ((w.heap.size, cs, 23) :: [])) (h1.out) ?_
  refine qstep (N := some 8) (v := .pointer (some ⟨w.heap.size, 0, none⟩)) (a' := ?_) rfl (by rfl) (fun w' _ => by go_simp) ?_ ?_
  rotate_left
  · simp only [Act.put, List.setIfInBounds_toArray, List.set_cons_zero, List.set_cons_succ]
    rfl
  refine qstep (N := some 9) (v := .int .i64 k) (a' := ?_) rfl (by rfl) (fun w' h => load_cell (h.blk0) HC_cs_0.out rfl rfl Try.underlying3 rfl) ?_ ?_
  rotate_left
  · simp only [Act.put, List.setIfInBounds_toArray, List.set_cons_zero, List.set_cons_succ]
    rfl
  refine wpQuiet_nil ?_
  intro w_ h2_
  have h2 := Aside0.mk h2_
  clear h2_
  go_upto_region 3 with (fail)
  refine region_p (C := Cls w ((w.heap.size, cs, 23) :: [])) (h2.out) ?_
  refine qstep (N := some 11) (v := .bool false) (a' := ?_) rfl (by rfl) (fun w' _ => by go_simp; (try simp only [i64_w]); first | exact P0.out | (have h_ := P0.out; omega) | exact cmp_ P0.out | exact cmpd_ P0.out | exact cmpf_ P0.out) ?_ ?_
  rotate_left
  · simp only [Act.put, List.setIfInBounds_toArray, List.set_cons_zero, List.set_cons_succ]
    rfl
  refine qstep (N := some 10) (v := .bool false) (a' := ?_) rfl (by rfl) (fun w' _ => by go_simp) ?_ ?_
  rotate_left
  · simp only [Act.put, List.setIfInBounds_toArray, List.set_cons_zero, List.set_cons_succ]
    rfl
  refine wpQuiet_nil ?_
  intro w_ h3_
  have h3 := Aside0.mk h3_
  clear h3_
  go_upto_region 7 with (fail)
  refine region_p (C := Cls w ((w.heap.size, cs, 23) :: [])) (h3.out) ?_
  refine qstep (N := some 32) (v := .bool true) (a' := ?_) rfl (by rfl) (fun w' _ => by go_simp; (try simp only [i64_w]); first | exact P1.out | (have h_ := P1.out; omega) | exact cmp_ P1.out | exact cmpd_ P1.out | exact cmpf_ P1.out) ?_ ?_
  rotate_left
  · simp only [Act.put, List.setIfInBounds_toArray, List.set_cons_zero, List.set_cons_succ]
    rfl
  refine qstep (N := some 31) (v := .bool true) (a' := ?_) rfl (by rfl) (fun w' _ => by go_simp) ?_ ?_
  rotate_left
  · simp only [Act.put, List.setIfInBounds_toArray, List.set_cons_zero, List.set_cons_succ]
    rfl
  refine wpQuiet_nil ?_
  intro w_ h7_
  have h7 := Aside0.mk h7_
  clear h7_
  go_upto_region 8 with (fail)
  refine region_q (C := Cls w ((w.heap.size, cs, 23) :: [])) (by kernel_rfl) (by kernel_rfl) (h7.out.drew) ?_
  refine qstep (N := some 33) (v := .pointer (some ⟨w.heap.size, 2, none⟩)) (a' := ?_) rfl (by rfl) (fun w' _ => by go_simp) ?_ ?_
  rotate_left
  · simp only [Act.put, List.setIfInBounds_toArray, List.set_cons_zero, List.set_cons_succ]
    rfl
  refine qstep (N := some 34) (v := .int .i64 b) (a' := ?_) rfl (by rfl) (fun w' h => load_cell (h.blk0) HC_cs_2.out rfl rfl Try.underlying3 rfl) ?_ ?_
  rotate_left
  · simp only [Act.put, List.setIfInBounds_toArray, List.set_cons_zero, List.set_cons_succ]
    rfl
  refine qstep (N := some 35) (v := .pointer (some ⟨w.heap.size, 1, none⟩)) (a' := ?_) rfl (by rfl) (fun w' _ => by go_simp) ?_ ?_
  rotate_left
  · simp only [Act.put, List.setIfInBounds_toArray, List.set_cons_zero, List.set_cons_succ]
    rfl
  refine qstep (N := some 36) (v := .int .i64 a) (a' := ?_) rfl (by rfl) (fun w' h => load_cell (h.blk0) HC_cs_1.out rfl rfl Try.underlying3 rfl) ?_ ?_
  rotate_left
  · simp only [Act.put, List.setIfInBounds_toArray, List.set_cons_zero, List.set_cons_succ]
    rfl
  refine qstep (N := some 37) (v := .pointer (some ⟨w.heap.size, 3, none⟩)) (a' := ?_) rfl (by rfl) (fun w' _ => by go_simp) ?_ ?_
  rotate_left
  · simp only [Act.put, List.setIfInBounds_toArray, List.set_cons_zero, List.set_cons_succ]
    rfl
  refine qstep (N := some 38) (v := .int .i64 c) (a' := ?_) rfl (by rfl) (fun w' h => load_cell (h.blk0) HC_cs_3.out rfl rfl Try.underlying3 rfl) ?_ ?_
  rotate_left
  · simp only [Act.put, List.setIfInBounds_toArray, List.set_cons_zero, List.set_cons_succ]
    rfl
  refine qstep (N := some 39) (v := .int .i64 (mn (mx x 0) 1000000000)) (a' := ?_) rfl (by rfl) (fun w' _ => by go_simp) ?_ ?_
  rotate_left
  · simp only [Act.put, List.setIfInBounds_toArray, List.set_cons_zero, List.set_cons_succ]
    rfl
  refine qstep (N := some 40) (v := .pointer (some ⟨w.heap.size, 4, none⟩)) (a' := ?_) rfl (by rfl) (fun w' _ => by go_simp) ?_ ?_
  rotate_left
  · simp only [Act.put, List.setIfInBounds_toArray, List.set_cons_zero, List.set_cons_succ]
    rfl
  refine qstep (N := some 41) (v := .int .i64 d) (a' := ?_) rfl (by rfl) (fun w' h => load_cell (h.blk0) HC_cs_4.out rfl rfl Try.underlying3 rfl) ?_ ?_
  rotate_left
  · simp only [Act.put, List.setIfInBounds_toArray, List.set_cons_zero, List.set_cons_succ]
    rfl
  refine qstep (N := some 42) (v := .int .i64 (wrap64 (Int.tdiv (mn (mx x 0) 1000000000) d))) (a' := ?_) rfl (by rfl) (fun w' _ => by go_simp; (try simp only [i64_w]); first | done | (rw [if_neg nz.out]; done) | (rw [if_neg nz.out]; simp only [i64_w])) ?_ ?_
  rotate_left
  · simp only [Act.put, List.setIfInBounds_toArray, List.set_cons_zero, List.set_cons_succ]
    rfl
  refine qstep (N := some 43) (v := .int .i64 (wrap64 (c * (wrap64 (Int.tdiv (mn (mx x 0) 1000000000) d))))) (a' := ?_) rfl (by rfl) (fun w' _ => by go_simp <;> simp only [i64_w]) ?_ ?_
  rotate_left
  · simp only [Act.put, List.setIfInBounds_toArray, List.set_cons_zero, List.set_cons_succ]
    rfl
  refine qstep (N := some 44) (v := .int .i64 (wrap64 (a - (wrap64 (c * (wrap64 (Int.tdiv (mn (mx x 0) 1000000000) d))))))) (a' := ?_) rfl (by rfl) (fun w' _ => by go_simp <;> simp only [i64_w]) ?_ ?_
  rotate_left
  · simp only [Act.put, List.setIfInBounds_toArray, List.set_cons_zero, List.set_cons_succ]
    rfl
  refine qstep (N := some 45) (v := .int .i64 (mx b (wrap64 (a - (wrap64 (c * (wrap64 (Int.tdiv (mn (mx x 0) 1000000000) d)))))))) (a' := ?_) rfl (by rfl) (fun w' _ => by go_simp <;> rfl) ?_ ?_
  rotate_left
  · simp only [Act.put, List.setIfInBounds_toArray, List.set_cons_zero, List.set_cons_succ]
    rfl
  refine qstep (N := some 4) (v := .int .i64 (mx b (wrap64 (a - (wrap64 (c * (wrap64 (Int.tdiv (mn (mx x 0) 1000000000) d)))))))) (a' := ?_) rfl (by rfl) (fun w' _ => by go_simp) ?_ ?_
  rotate_left
  · simp only [Act.put, List.setIfInBounds_toArray, List.set_cons_zero, List.set_cons_succ]
    rfl
  refine wpQuiet_nil ?_
  intro w_ h8_
  have h8 := Aside0.mk h8_
  clear h8_
  go_wp2
  go_ret
  exact ⟨(congrArg (fun z => Ending.returned (.int .i64 z)) hE.out), h8.out.below⟩

set_option maxHeartbeats 4000000 in
set_option maxRecDepth 100000 in
theorem recip (cs : Array Value) (x : Int) (k a b c d : Int) (r : Int) (w : World) (HS_cs : Aside0 (cs.size = 5)) (HC_cs_0 : Aside0 (cs[0]? = some (.int .i64 k))) (HC_cs_1 : Aside0 (cs[1]? = some (.int .i64 a))) (HC_cs_2 : Aside0 (cs[2]? = some (.int .i64 b))) (HC_cs_3 : Aside0 (cs[3]? = some (.int .i64 c)))
    (P0 : Aside0 (¬ (k = 1)))
    (P1 : Aside0 (¬ (k = 2)))
    (nz : Aside0 (¬ wrap64 ((mn (mx x 0) 1000000000) + b) = 0))
    (hE : Aside0 (mn 1000000000 (mx 0 (wrap64 ((wrap64 (Int.tdiv (wrap64 (a * 1000000000)) (wrap64 ((mn (mx x 0) 1000000000) + b)))) - c))) = r)) :
    Calls Try.prog 29 #[.agg cs, .int .i64 x] w fun e w' => e = .returned (.int .i64 r) ∧ Below w.heap.size w w' := by
  have HCl : Aside0 (Cls w ((w.heap.size, cs, 23) :: []) (w.alloc (.cells cs 23 (0, 0)))) := ⟨(Cls.start w).put _ _⟩
  go_enter Try.func29, Try.ntmps29
  go_upto_region 1 with (fail)
  refine region_p (C := Cls w ((w.heap.size, cs, 23) :: [])) (HCl.out) ?_
  refine qstep (N := some 5) (v := .int .i64 x) (a' := ?_) rfl (by rfl) (fun w' _ => by go_simp) ?_ ?_
  rotate_left
  · simp only [Act.put, List.setIfInBounds_toArray, List.set_cons_zero, List.set_cons_succ]
    rfl
  refine qstep (N := some 6) (v := .int .i64 (mx x 0)) (a' := ?_) rfl (by rfl) (fun w' _ => by go_simp <;> rfl) ?_ ?_
  rotate_left
  · simp only [Act.put, List.setIfInBounds_toArray, List.set_cons_zero, List.set_cons_succ]
    rfl
  refine qstep (N := some 7) (v := .int .i64 (mn (mx x 0) 1000000000)) (a' := ?_) rfl (by rfl) (fun w' _ => by go_simp <;> rfl) ?_ ?_
  rotate_left
  · simp only [Act.put, List.setIfInBounds_toArray, List.set_cons_zero, List.set_cons_succ]
    rfl
  refine qstep (N := some 1) (v := .int .i64 (mn (mx x 0) 1000000000)) (a' := ?_) rfl (by rfl) (fun w' _ => by go_simp) ?_ ?_
  rotate_left
  · simp only [Act.put, List.setIfInBounds_toArray, List.set_cons_zero, List.set_cons_succ]
    rfl
  refine wpQuiet_nil ?_
  intro w_ h1_
  have h1 := Aside0.mk h1_
  clear h1_
  go_upto_region 2 with (fail)
  refine region_p (C := Cls w ((w.heap.size, cs, 23) :: [])) (h1.out) ?_
  refine qstep (N := some 8) (v := .pointer (some ⟨w.heap.size, 0, none⟩)) (a' := ?_) rfl (by rfl) (fun w' _ => by go_simp) ?_ ?_
  rotate_left
  · simp only [Act.put, List.setIfInBounds_toArray, List.set_cons_zero, List.set_cons_succ]
    rfl
  refine qstep (N := some 9) (v := .int .i64 k) (a' := ?_) rfl (by rfl) (fun w' h => load_cell (h.blk0) HC_cs_0.out rfl rfl Try.underlying3 rfl) ?_ ?_
  rotate_left
  · simp only [Act.put, List.setIfInBounds_toArray, List.set_cons_zero, List.set_cons_succ]
    rfl
  refine wpQuiet_nil ?_
  intro w_ h2_
  have h2 := Aside0.mk h2_
  clear h2_
  go_upto_region 3 with (fail)
  refine region_p (C := Cls w ((w.heap.size, cs, 23) :: [])) (h2.out) ?_
  refine qstep (N := some 11) (v := .bool false) (a' := ?_) rfl (by rfl) (fun w' _ => by go_simp; (try simp only [i64_w]); first | exact P0.out | (have h_ := P0.out; omega) | exact cmp_ P0.out | exact cmpd_ P0.out | exact cmpf_ P0.out) ?_ ?_
  rotate_left
  · simp only [Act.put, List.setIfInBounds_toArray, List.set_cons_zero, List.set_cons_succ]
    rfl
  refine qstep (N := some 10) (v := .bool false) (a' := ?_) rfl (by rfl) (fun w' _ => by go_simp) ?_ ?_
  rotate_left
  · simp only [Act.put, List.setIfInBounds_toArray, List.set_cons_zero, List.set_cons_succ]
    rfl
  refine wpQuiet_nil ?_
  intro w_ h3_
  have h3 := Aside0.mk h3_
  clear h3_
  go_upto_region 7 with (fail)
  refine region_p (C := Cls w ((w.heap.size, cs, 23) :: [])) (h3.out) ?_
  refine qstep (N := some 32) (v := .bool false) (a' := ?_) rfl (by rfl) (fun w' _ => by go_simp; (try simp only [i64_w]); first | exact P1.out | (have h_ := P1.out; omega) | exact cmp_ P1.out | exact cmpd_ P1.out | exact cmpf_ P1.out) ?_ ?_
  rotate_left
  · simp only [Act.put, List.setIfInBounds_toArray, List.set_cons_zero, List.set_cons_succ]
    rfl
  refine qstep (N := some 31) (v := .bool false) (a' := ?_) rfl (by rfl) (fun w' _ => by go_simp) ?_ ?_
  rotate_left
  · simp only [Act.put, List.setIfInBounds_toArray, List.set_cons_zero, List.set_cons_succ]
    rfl
  refine wpQuiet_nil ?_
  intro w_ h7_
  have h7 := Aside0.mk h7_
  clear h7_
  go_upto_region 9 with (fail)
  refine region_q (C := Cls w ((w.heap.size, cs, 23) :: [])) (by kernel_rfl) (by kernel_rfl) (h7.out.drew) ?_
  refine qstep (N := some 46) (v := .pointer (some ⟨w.heap.size, 1, none⟩)) (a' := ?_) rfl (by rfl) (fun w' _ => by go_simp) ?_ ?_
  rotate_left
  · simp only [Act.put, List.setIfInBounds_toArray, List.set_cons_zero, List.set_cons_succ]
    rfl
  refine qstep (N := some 47) (v := .int .i64 a) (a' := ?_) rfl (by rfl) (fun w' h => load_cell (h.blk0) HC_cs_1.out rfl rfl Try.underlying3 rfl) ?_ ?_
  rotate_left
  · simp only [Act.put, List.setIfInBounds_toArray, List.set_cons_zero, List.set_cons_succ]
    rfl
  refine qstep (N := some 48) (v := .int .i64 (wrap64 (a * 1000000000))) (a' := ?_) rfl (by rfl) (fun w' _ => by go_simp <;> simp only [i64_w]) ?_ ?_
  rotate_left
  · simp only [Act.put, List.setIfInBounds_toArray, List.set_cons_zero, List.set_cons_succ]
    rfl
  refine qstep (N := some 49) (v := .int .i64 (mn (mx x 0) 1000000000)) (a' := ?_) rfl (by rfl) (fun w' _ => by go_simp) ?_ ?_
  rotate_left
  · simp only [Act.put, List.setIfInBounds_toArray, List.set_cons_zero, List.set_cons_succ]
    rfl
  refine qstep (N := some 50) (v := .pointer (some ⟨w.heap.size, 2, none⟩)) (a' := ?_) rfl (by rfl) (fun w' _ => by go_simp) ?_ ?_
  rotate_left
  · simp only [Act.put, List.setIfInBounds_toArray, List.set_cons_zero, List.set_cons_succ]
    rfl
  refine qstep (N := some 51) (v := .int .i64 b) (a' := ?_) rfl (by rfl) (fun w' h => load_cell (h.blk0) HC_cs_2.out rfl rfl Try.underlying3 rfl) ?_ ?_
  rotate_left
  · simp only [Act.put, List.setIfInBounds_toArray, List.set_cons_zero, List.set_cons_succ]
    rfl
  refine qstep (N := some 52) (v := .int .i64 (wrap64 ((mn (mx x 0) 1000000000) + b))) (a' := ?_) rfl (by rfl) (fun w' _ => by go_simp <;> simp only [i64_w]) ?_ ?_
  rotate_left
  · simp only [Act.put, List.setIfInBounds_toArray, List.set_cons_zero, List.set_cons_succ]
    rfl
  refine qstep (N := some 53) (v := .int .i64 (wrap64 (Int.tdiv (wrap64 (a * 1000000000)) (wrap64 ((mn (mx x 0) 1000000000) + b))))) (a' := ?_) rfl (by rfl) (fun w' _ => by go_simp; (try simp only [i64_w]); first | done | (rw [if_neg nz.out]; done) | (rw [if_neg nz.out]; simp only [i64_w])) ?_ ?_
  rotate_left
  · simp only [Act.put, List.setIfInBounds_toArray, List.set_cons_zero, List.set_cons_succ]
    rfl
  refine qstep (N := some 54) (v := .pointer (some ⟨w.heap.size, 3, none⟩)) (a' := ?_) rfl (by rfl) (fun w' _ => by go_simp) ?_ ?_
  rotate_left
  · simp only [Act.put, List.setIfInBounds_toArray, List.set_cons_zero, List.set_cons_succ]
    rfl
  refine qstep (N := some 55) (v := .int .i64 c) (a' := ?_) rfl (by rfl) (fun w' h => load_cell (h.blk0) HC_cs_3.out rfl rfl Try.underlying3 rfl) ?_ ?_
  rotate_left
  · simp only [Act.put, List.setIfInBounds_toArray, List.set_cons_zero, List.set_cons_succ]
    rfl
  refine qstep (N := some 56) (v := .int .i64 (wrap64 ((wrap64 (Int.tdiv (wrap64 (a * 1000000000)) (wrap64 ((mn (mx x 0) 1000000000) + b)))) - c))) (a' := ?_) rfl (by rfl) (fun w' _ => by go_simp <;> simp only [i64_w]) ?_ ?_
  rotate_left
  · simp only [Act.put, List.setIfInBounds_toArray, List.set_cons_zero, List.set_cons_succ]
    rfl
  refine qstep (N := some 57) (v := .int .i64 (mx 0 (wrap64 ((wrap64 (Int.tdiv (wrap64 (a * 1000000000)) (wrap64 ((mn (mx x 0) 1000000000) + b)))) - c)))) (a' := ?_) rfl (by rfl) (fun w' _ => by go_simp <;> rfl) ?_ ?_
  rotate_left
  · simp only [Act.put, List.setIfInBounds_toArray, List.set_cons_zero, List.set_cons_succ]
    rfl
  refine qstep (N := some 58) (v := .int .i64 (mn 1000000000 (mx 0 (wrap64 ((wrap64 (Int.tdiv (wrap64 (a * 1000000000)) (wrap64 ((mn (mx x 0) 1000000000) + b)))) - c))))) (a' := ?_) rfl (by rfl) (fun w' _ => by go_simp <;> rfl) ?_ ?_
  rotate_left
  · simp only [Act.put, List.setIfInBounds_toArray, List.set_cons_zero, List.set_cons_succ]
    rfl
  refine qstep (N := some 4) (v := .int .i64 (mn 1000000000 (mx 0 (wrap64 ((wrap64 (Int.tdiv (wrap64 (a * 1000000000)) (wrap64 ((mn (mx x 0) 1000000000) + b)))) - c))))) (a' := ?_) rfl (by rfl) (fun w' _ => by go_simp) ?_ ?_
  rotate_left
  · simp only [Act.put, List.setIfInBounds_toArray, List.set_cons_zero, List.set_cons_succ]
    rfl
  refine wpQuiet_nil ?_
  intro w_ h9_
  have h9 := Aside0.mk h9_
  clear h9_
  go_wp2
  go_ret
  exact ⟨(congrArg (fun z => Ending.returned (.int .i64 z)) hE.out), h9.out.below⟩

theorem at_ (k a b c d x : Int) (ok : okCurve k a b c d) : Rets Try.prog 29 #[.agg #[.int .i64 k, .int .i64 a, .int .i64 b, .int .i64 c, .int .i64 d], .int .i64 x] (.int .i64 (C k a b c d (hold x))) := fun w => by
  have hx : mn (mx x 0) 1000000000 = hold x := by unfold hold; rw [mn_eq, mx_eq]
  obtain ⟨y0, y1⟩ := hold_in x
  rcases ok with ⟨rfl, a0, a1, b0, ba, c1, c2, rfl⟩ | ⟨rfl, a0, a1, b0, ba, c1, c2, d1, d2⟩ | ⟨rfl, a0, a1, b1, b2, c0, c1, rfl⟩
  · by_cases hc : hold x ≥ c
    · refine lin_far (cs := _) (x := x) (k := 1) (a := a) (b := b) (c := c) (d := 0) (r := _) (w := w) (HS_cs := ⟨rfl⟩) (HC_cs_0 := ⟨rfl⟩) (HC_cs_2 := ⟨rfl⟩) (HC_cs_3 := ⟨rfl⟩) (P0 := ⟨rfl⟩) (P1 := ⟨by rw [hx]; exact hc⟩) (hE := ⟨?_⟩)
      unfold C; rw [if_pos rfl, if_pos hc]
    · refine lin_near (cs := _) (x := x) (k := 1) (a := a) (b := b) (c := c) (d := 0) (r := _) (w := w) (HS_cs := ⟨rfl⟩) (HC_cs_0 := ⟨rfl⟩) (HC_cs_1 := ⟨rfl⟩) (HC_cs_2 := ⟨rfl⟩) (HC_cs_3 := ⟨rfl⟩) (P0 := ⟨rfl⟩) (P1 := ⟨by rw [hx]; exact hc⟩) (nz := ⟨by omega⟩) (hE := ⟨?_⟩)
      rw [hx]
      unfold C; rw [if_pos rfl, if_neg hc]
      generalize hold x = y at *
      obtain ⟨q0, q1, d0, d1⟩ := lin_fall a1 b0 ba c1 y0 (x := y) (by omega)
      have hb := (mulb (a := a - b) (b := c) (A := 1000000000) (B := 1000000000) (by omega) (by omega) (by omega) (by omega)).2
      rw [w64 (n := a - b) (by omega) (by omega), w64 (n := (a - b) * y) (by omega) (by omega), td q0, w64 (n := (a - b) * y / c) (by omega) (by omega), w64 (by omega) (by omega)]
  · refine step (cs := _) (x := x) (k := 2) (a := a) (b := b) (c := c) (d := d) (r := _) (w := w) (HS_cs := ⟨rfl⟩) (HC_cs_0 := ⟨rfl⟩) (HC_cs_1 := ⟨rfl⟩) (HC_cs_2 := ⟨rfl⟩) (HC_cs_3 := ⟨rfl⟩) (HC_cs_4 := ⟨rfl⟩) (P0 := ⟨by decide⟩) (P1 := ⟨rfl⟩) (nz := ⟨by omega⟩) (hE := ⟨?_⟩)
    rw [hx]
    unfold C; rw [if_neg (by decide), if_pos rfl]
    generalize hold x = y at *
    obtain ⟨q0, q1⟩ := div_le_self (a := y) (b := d) y0 d1
    obtain ⟨m0, m1⟩ := mulb (a := y / d) (b := c) (A := 1000000000) (B := 1000000000) q0 (by omega) (by omega) c2
    rw [td y0, w64 (n := y / d) (by omega) (by omega), Int.mul_comm c, w64 (n := y / d * c) (by omega) (by omega), w64 (by omega) (by omega), mx_eq, Int.max_comm]
  · have hn : wrap64 (hold x + b) = hold x + b := w64 (by omega) (by omega)
    refine recip (cs := _) (x := x) (k := 3) (a := a) (b := b) (c := c) (d := 0) (r := _) (w := w) (HS_cs := ⟨rfl⟩) (HC_cs_0 := ⟨rfl⟩) (HC_cs_1 := ⟨rfl⟩) (HC_cs_2 := ⟨rfl⟩) (HC_cs_3 := ⟨rfl⟩) (P0 := ⟨by decide⟩) (P1 := ⟨by decide⟩) (nz := ⟨by rw [hx, hn]; omega⟩) (hE := ⟨?_⟩)
    rw [hx, hn]
    unfold C; rw [if_neg (by decide), if_neg (by decide)]
    generalize hold x = y at *
    obtain ⟨q0, q1⟩ := div_le_self (a := a * 1000000000) (b := y + b) (by omega) (by omega)
    rw [w64 (n := a * 1000000000) (by omega) (by omega), td (by omega), w64 (n := a * 1000000000 / (y + b)) (by omega) (by omega), w64 (by omega) (by omega), mn_eq, mx_eq, Int.min_comm, Int.max_comm]

end Go.Proofs.Ytpnjddolboahoaa.RefAt
