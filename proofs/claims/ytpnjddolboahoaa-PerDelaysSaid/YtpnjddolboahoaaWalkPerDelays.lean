/- At its delay a curve is as low, if it ever is, ahead of it it is not: the law answers true at every curve and numbers. -/
import Derived.Test.YtpnjddolboahoaaPPerDelaysx2
import Derived.Test.YtpnjddolboahoaaDelays
namespace Go.Proofs.Ytpnjddolboahoaa.WalkPerDelays
open Go.RowKit Go.Proofs.YtpnjddolboahoaaW.PrintWords Go.Proofs.YtpnjddolboahoaaW.PrintLast Go.Proofs.YtpnjddolboahoaaW.PrintMore Go.Proofs.Ytpnjddolboahoaa.Math Go.Proofs.Ytpnjddolboahoaa.Q
attribute [local go_sem] max2_int min2_int max_two min_two
set_option linter.unusedVariables false
set_option linter.unusedSimpArgs false

theorem info23 : (Try.prog.info? 23).map (·.size) = some 5 := by kernel_rfl
theorem info25 : (Try.prog.info? 25).map (·.size) = some 18 := by kernel_rfl
theorem info29 : (Try.prog.info? 29).map (·.size) = some 3 := by kernel_rfl
theorem cmp_ {a b : Int} {w : World} (h : a = b) : Result.ok (Next.value (.bool (a == b))) w = Result.ok (Next.value (.bool true)) w := by rw [beq_iff_eq.mpr h]
theorem cmpd_ {p : Prop} [Decidable p] {w : World} (h : p) : Result.ok (Next.value (.bool (decide p))) w = Result.ok (Next.value (.bool true)) w := by rw [decide_eq_true h]
theorem cmpf_ {p : Prop} [Decidable p] {w : World} (h : ¬ p) : Result.ok (Next.value (.bool (decide p))) w = Result.ok (Next.value (.bool false)) w := by rw [decide_eq_false h]

set_option maxHeartbeats 4000000 in
set_option maxRecDepth 100000 in
theorem no (cs : Array Value) (y : Int) (x : Int) (k a b c d : Int) (vd : Int) (w : World) (HS_cs : Aside0 (cs.size = 5))
    (H36 : Aside0 (Rets Try.prog 36 #[.agg cs] (.bool false))) :
    Calls Try.prog 20 #[.agg cs, .int .i64 y, .int .i64 x] w fun e w' => e = .returned (.bool true) ∧ Below w.heap.size w w' := by
  have HCl : Aside0 (Cls w ((w.heap.size, cs, 23) :: []) (w.alloc (.cells cs 23 (0, 0)))) := ⟨(Cls.start w).put _ _⟩
  go_enter Try.func20, Try.ntmps20
  go_upto_region 1 with (fail)
  refine wregion_p (C := Cls w ((w.heap.size, cs, 23) :: [])) (HCl.out) ?_
  refine wstep (N := some 8) (v := .agg cs) (a' := ?_) rfl (by rfl) (fun w' h => load_row (h.blk0) rfl rfl Try.underlying23 rfl (by rw [HS_cs.out]; exact info23)) ?_ ?_
  rotate_left
  · simp only [Act.put, List.setIfInBounds_toArray, List.set_cons_zero, List.set_cons_succ]
    rfl
  refine wcall (N := some 9) (a' := ?_) (f := 36) Try.func36 (by kernel_rfl) rfl #[.agg cs] (by rfl) rfl rfl (by (try simp only [List.map_toArray, List.map_cons, List.map_nil]); first | done | rfl) (qcall_cls (v := .bool false) H36.out) ?_ ?_
  rotate_left
  · simp only [Act.put, List.setIfInBounds_toArray, List.set_cons_zero, List.set_cons_succ]
    rfl
  refine wstep (N := some 10) (v := .bool true) (a' := ?_) rfl (by rfl) (fun w' _ => by go_simp) ?_ ?_
  rotate_left
  · simp only [Act.put, List.setIfInBounds_toArray, List.set_cons_zero, List.set_cons_succ]
    rfl
  refine wnil ?_
  intro w_h1 h1_
  have h1 := Aside0.mk h1_
  clear h1_
  go_wp2
  go_ret
  exact ⟨rfl, h1.out.below⟩

set_option maxHeartbeats 4000000 in
set_option maxRecDepth 100000 in
theorem yesEL (cs : Array Value) (y : Int) (x : Int) (k a b c d : Int) (vd : Int) (w : World) (HS_cs : Aside0 (cs.size = 5))
    (H36 : Aside0 (Rets Try.prog 36 #[.agg cs] (.bool true)))
    (H30 : Aside0 (Rets Try.prog 30 #[.int .i64 vd, .int .i64 1000000000] (.bool true)))
    (H35 : Aside0 (Rets Try.prog 35 #[] (.bool true)))
    (H39 : Aside0 (Rets Try.prog 39 #[.agg cs, .int .i64 y] (.int .i64 vd)))
    (HA : Aside0 (∀ z, Rets Try.prog 37 #[.agg cs, .int .i64 z] (.int .i64 (C k a b c d (hold z)))))
    (P0 : Aside0 (C k a b c d (hold 1000000000) ≤ y))
    (P1 : Aside0 (¬ (C k a b c d (hold vd) > y)))
    (P2 : Aside0 (x < 0)) :
    Calls Try.prog 20 #[.agg cs, .int .i64 y, .int .i64 x] w fun e w' => e = .returned (.bool true) ∧ Below w.heap.size w w' := by
  have HCl : Aside0 (Cls w ((w.heap.size, cs, 23) :: []) (w.alloc (.cells cs 23 (0, 0)))) := ⟨(Cls.start w).put _ _⟩
  go_enter Try.func20, Try.ntmps20
  go_upto_region 1 with (fail)
  refine wregion_p (C := Cls w ((w.heap.size, cs, 23) :: [])) (HCl.out) ?_
  refine wstep (N := some 8) (v := .agg cs) (a' := ?_) rfl (by rfl) (fun w' h => load_row (h.blk0) rfl rfl Try.underlying23 rfl (by rw [HS_cs.out]; exact info23)) ?_ ?_
  rotate_left
  · simp only [Act.put, List.setIfInBounds_toArray, List.set_cons_zero, List.set_cons_succ]
    rfl
  refine wcall (N := some 9) (a' := ?_) (f := 36) Try.func36 (by kernel_rfl) rfl #[.agg cs] (by rfl) rfl rfl (by (try simp only [List.map_toArray, List.map_cons, List.map_nil]); first | done | rfl) (qcall_cls (v := .bool true) H36.out) ?_ ?_
  rotate_left
  · simp only [Act.put, List.setIfInBounds_toArray, List.set_cons_zero, List.set_cons_succ]
    rfl
  refine wstep (N := some 10) (v := .bool false) (a' := ?_) rfl (by rfl) (fun w' _ => by go_simp) ?_ ?_
  rotate_left
  · simp only [Act.put, List.setIfInBounds_toArray, List.set_cons_zero, List.set_cons_succ]
    rfl
  refine wnil ?_
  intro w_h1 h1_
  have h1 := Aside0.mk h1_
  clear h1_
  go_upto_region 3 with (fail)
  refine wregion_p (C := Cls w ((w.heap.size, cs, 23) :: [])) (h1.out) ?_
  refine wstep (N := some 11) (v := .agg cs) (a' := ?_) rfl (by rfl) (fun w' h => load_row (h.blk0) rfl rfl Try.underlying23 rfl (by rw [HS_cs.out]; exact info23)) ?_ ?_
  rotate_left
  · simp only [Act.put, List.setIfInBounds_toArray, List.set_cons_zero, List.set_cons_succ]
    rfl
  refine wstep (N := some 12) (v := .int .i64 y) (a' := ?_) rfl (by rfl) (fun w' _ => by go_simp) ?_ ?_
  rotate_left
  · simp only [Act.put, List.setIfInBounds_toArray, List.set_cons_zero, List.set_cons_succ]
    rfl
  refine wcall (N := some 13) (a' := ?_) (f := 39) Try.func39 (by kernel_rfl) rfl #[.agg cs, .int .i64 y] (by rfl) rfl rfl (by (try simp only [List.map_toArray, List.map_cons, List.map_nil]); first | done | rfl) (qcall_cls (v := .int .i64 vd) H39.out) ?_ ?_
  rotate_left
  · simp only [Act.put, List.setIfInBounds_toArray, List.set_cons_zero, List.set_cons_succ]
    rfl
  refine wstep (N := some 7) (v := .int .i64 vd) (a' := ?_) rfl (by rfl) (fun w' _ => by go_simp) ?_ ?_
  rotate_left
  · simp only [Act.put, List.setIfInBounds_toArray, List.set_cons_zero, List.set_cons_succ]
    rfl
  refine wnil ?_
  intro w_h3 h3_
  have h3 := Aside0.mk h3_
  clear h3_
  go_upto_region 4 with (fail)
  refine wregion_p (C := Cls w ((w.heap.size, cs, 23) :: [])) (h3.out) ?_
  refine wstep (N := some 14) (v := .int .i64 vd) (a' := ?_) rfl (by rfl) (fun w' _ => by go_simp) ?_ ?_
  rotate_left
  · simp only [Act.put, List.setIfInBounds_toArray, List.set_cons_zero, List.set_cons_succ]
    rfl
  refine wcall (N := some 15) (a' := ?_) (f := 30) Try.func30 (by kernel_rfl) rfl #[.int .i64 vd, .int .i64 1000000000] (by rfl) rfl rfl (by (try simp only [List.map_toArray, List.map_cons, List.map_nil]); first | done | rfl) (qcall_cls (v := .bool true) H30.out) ?_ ?_
  rotate_left
  · simp only [Act.put, List.setIfInBounds_toArray, List.set_cons_zero, List.set_cons_succ]
    rfl
  refine wstep (N := some 16) (v := .bool false) (a' := ?_) rfl (by rfl) (fun w' _ => by go_simp) ?_ ?_
  rotate_left
  · simp only [Act.put, List.setIfInBounds_toArray, List.set_cons_zero, List.set_cons_succ]
    rfl
  refine wnil ?_
  intro w_h4 h4_
  have h4 := Aside0.mk h4_
  clear h4_
  go_upto_region 6 with (fail)
  refine wregion_p (C := Cls w ((w.heap.size, cs, 23) :: [])) (h4.out) ?_
  refine wstep (N := some 17) (v := .agg cs) (a' := ?_) rfl (by rfl) (fun w' h => load_row (h.blk0) rfl rfl Try.underlying23 rfl (by rw [HS_cs.out]; exact info23)) ?_ ?_
  rotate_left
  · simp only [Act.put, List.setIfInBounds_toArray, List.set_cons_zero, List.set_cons_succ]
    rfl
  refine wcall (N := some 18) (a' := ?_) (f := 37) Try.func37 (by kernel_rfl) rfl #[.agg cs, .int .i64 1000000000] (by rfl) rfl rfl (by (try simp only [List.map_toArray, List.map_cons, List.map_nil]); first | done | rfl) (qcall_cls (v := .int .i64 (C k a b c d (hold 1000000000))) (HA.out 1000000000)) ?_ ?_
  rotate_left
  · simp only [Act.put, List.setIfInBounds_toArray, List.set_cons_zero, List.set_cons_succ]
    rfl
  refine wstep (N := some 19) (v := .int .i64 y) (a' := ?_) rfl (by rfl) (fun w' _ => by go_simp) ?_ ?_
  rotate_left
  · simp only [Act.put, List.setIfInBounds_toArray, List.set_cons_zero, List.set_cons_succ]
    rfl
  refine wstep (N := some 20) (v := .bool true) (a' := ?_) rfl (by rfl) (fun w' _ => by go_simp; (try simp only [i64_w]); first | exact P0.out | (have h_ := P0.out; omega) | exact cmp_ P0.out | exact cmpd_ P0.out | exact cmpf_ P0.out) ?_ ?_
  rotate_left
  · simp only [Act.put, List.setIfInBounds_toArray, List.set_cons_zero, List.set_cons_succ]
    rfl
  refine wstep (N := some 21) (v := .bool true) (a' := ?_) rfl (by rfl) (fun w' _ => by go_simp) ?_ ?_
  rotate_left
  · simp only [Act.put, List.setIfInBounds_toArray, List.set_cons_zero, List.set_cons_succ]
    rfl
  refine wstep (N := some 22) (v := .agg cs) (a' := ?_) rfl (by rfl) (fun w' h => load_row (h.blk0) rfl rfl Try.underlying23 rfl (by rw [HS_cs.out]; exact info23)) ?_ ?_
  rotate_left
  · simp only [Act.put, List.setIfInBounds_toArray, List.set_cons_zero, List.set_cons_succ]
    rfl
  refine wstep (N := some 23) (v := .int .i64 vd) (a' := ?_) rfl (by rfl) (fun w' _ => by go_simp) ?_ ?_
  rotate_left
  · simp only [Act.put, List.setIfInBounds_toArray, List.set_cons_zero, List.set_cons_succ]
    rfl
  refine wcall (N := some 24) (a' := ?_) (f := 37) Try.func37 (by kernel_rfl) rfl #[.agg cs, .int .i64 vd] (by rfl) rfl rfl (by (try simp only [List.map_toArray, List.map_cons, List.map_nil]); first | done | rfl) (qcall_cls (v := .int .i64 (C k a b c d (hold vd))) (HA.out vd)) ?_ ?_
  rotate_left
  · simp only [Act.put, List.setIfInBounds_toArray, List.set_cons_zero, List.set_cons_succ]
    rfl
  refine wstep (N := some 25) (v := .int .i64 y) (a' := ?_) rfl (by rfl) (fun w' _ => by go_simp) ?_ ?_
  rotate_left
  · simp only [Act.put, List.setIfInBounds_toArray, List.set_cons_zero, List.set_cons_succ]
    rfl
  refine wstep (N := some 26) (v := .bool false) (a' := ?_) rfl (by rfl) (fun w' _ => by go_simp; (try simp only [i64_w]); first | exact P1.out | (have h_ := P1.out; omega) | exact cmp_ P1.out | exact cmpd_ P1.out | exact cmpf_ P1.out) ?_ ?_
  rotate_left
  · simp only [Act.put, List.setIfInBounds_toArray, List.set_cons_zero, List.set_cons_succ]
    rfl
  refine wstep (N := some 27) (v := .bool false) (a' := ?_) rfl (by rfl) (fun w' _ => by go_simp) ?_ ?_
  rotate_left
  · simp only [Act.put, List.setIfInBounds_toArray, List.set_cons_zero, List.set_cons_succ]
    rfl
  refine wnil ?_
  intro w_h6 h6_
  have h6 := Aside0.mk h6_
  clear h6_
  go_upto_region 8 with (fail)
  refine wregion_p (C := Cls w ((w.heap.size, cs, 23) :: [])) (h6.out) ?_
  refine wstep (N := some 28) (v := .int .i64 x) (a' := ?_) rfl (by rfl) (fun w' _ => by go_simp) ?_ ?_
  rotate_left
  · simp only [Act.put, List.setIfInBounds_toArray, List.set_cons_zero, List.set_cons_succ]
    rfl
  refine wstep (N := some 29) (v := .bool true) (a' := ?_) rfl (by rfl) (fun w' _ => by go_simp; (try simp only [i64_w]); first | exact P2.out | (have h_ := P2.out; omega) | exact cmp_ P2.out | exact cmpd_ P2.out | exact cmpf_ P2.out) ?_ ?_
  rotate_left
  · simp only [Act.put, List.setIfInBounds_toArray, List.set_cons_zero, List.set_cons_succ]
    rfl
  refine wstep (N := some 30) (v := .bool true) (a' := ?_) rfl (by rfl) (fun w' _ => by go_simp) ?_ ?_
  rotate_left
  · simp only [Act.put, List.setIfInBounds_toArray, List.set_cons_zero, List.set_cons_succ]
    rfl
  refine wskip (N := some 31) (a' := ?_) rfl (by rfl) ?_ ?_
  rotate_left
  · simp only [Act.put, List.setIfInBounds_toArray, List.set_cons_zero, List.set_cons_succ]
    rfl
  refine wskip (N := some 32) (a' := ?_) rfl (by rfl) ?_ ?_
  rotate_left
  · simp only [Act.put, List.setIfInBounds_toArray, List.set_cons_zero, List.set_cons_succ]
    rfl
  refine wskip (N := some 33) (a' := ?_) rfl (by rfl) ?_ ?_
  rotate_left
  · simp only [Act.put, List.setIfInBounds_toArray, List.set_cons_zero, List.set_cons_succ]
    rfl
  refine wstep (N := some 34) (v := .bool true) (a' := ?_) rfl (by rfl) (fun w' _ => by go_simp) ?_ ?_
  rotate_left
  · simp only [Act.put, List.setIfInBounds_toArray, List.set_cons_zero, List.set_cons_succ]
    rfl
  refine wstep (N := some 35) (v := .bool true) (a' := ?_) rfl (by rfl) (fun w' _ => by go_simp) ?_ ?_
  rotate_left
  · simp only [Act.put, List.setIfInBounds_toArray, List.set_cons_zero, List.set_cons_succ]
    rfl
  refine wskip (N := some 36) (a' := ?_) rfl (by rfl) ?_ ?_
  rotate_left
  · simp only [Act.put, List.setIfInBounds_toArray, List.set_cons_zero, List.set_cons_succ]
    rfl
  refine wskip (N := some 37) (a' := ?_) rfl (by rfl) ?_ ?_
  rotate_left
  · simp only [Act.put, List.setIfInBounds_toArray, List.set_cons_zero, List.set_cons_succ]
    rfl
  refine wskip (N := some 38) (a' := ?_) rfl (by rfl) ?_ ?_
  rotate_left
  · simp only [Act.put, List.setIfInBounds_toArray, List.set_cons_zero, List.set_cons_succ]
    rfl
  refine wskip (N := some 39) (a' := ?_) rfl (by rfl) ?_ ?_
  rotate_left
  · simp only [Act.put, List.setIfInBounds_toArray, List.set_cons_zero, List.set_cons_succ]
    rfl
  refine wskip (N := some 40) (a' := ?_) rfl (by rfl) ?_ ?_
  rotate_left
  · simp only [Act.put, List.setIfInBounds_toArray, List.set_cons_zero, List.set_cons_succ]
    rfl
  refine wstep (N := some 41) (v := .bool true) (a' := ?_) rfl (by rfl) (fun w' _ => by go_simp) ?_ ?_
  rotate_left
  · simp only [Act.put, List.setIfInBounds_toArray, List.set_cons_zero, List.set_cons_succ]
    rfl
  refine wstep (N := some 42) (v := .bool true) (a' := ?_) rfl (by rfl) (fun w' _ => by go_simp) ?_ ?_
  rotate_left
  · simp only [Act.put, List.setIfInBounds_toArray, List.set_cons_zero, List.set_cons_succ]
    rfl
  refine wcall (N := some 43) (a' := ?_) (f := 35) Try.func35 (by kernel_rfl) rfl #[] (by rfl) rfl rfl (by (try simp only [List.map_toArray, List.map_cons, List.map_nil]); first | done | rfl) (qcall_cls (v := .bool true) H35.out) ?_ ?_
  rotate_left
  · simp only [Act.put, List.setIfInBounds_toArray, List.set_cons_zero, List.set_cons_succ]
    rfl
  refine wstep (N := some 44) (v := .bool true) (a' := ?_) rfl (by rfl) (fun w' _ => by go_simp) ?_ ?_
  rotate_left
  · simp only [Act.put, List.setIfInBounds_toArray, List.set_cons_zero, List.set_cons_succ]
    rfl
  refine wstep (N := some 6) (v := .bool true) (a' := ?_) rfl (by rfl) (fun w' _ => by go_simp) ?_ ?_
  rotate_left
  · simp only [Act.put, List.setIfInBounds_toArray, List.set_cons_zero, List.set_cons_succ]
    rfl
  refine wnil ?_
  intro w_h8 h8_
  have h8 := Aside0.mk h8_
  clear h8_
  go_wp2
  go_ret
  exact ⟨rfl, h8.out.below⟩

set_option maxHeartbeats 4000000 in
set_option maxRecDepth 100000 in
theorem yesEG (cs : Array Value) (y : Int) (x : Int) (k a b c d : Int) (vd : Int) (w : World) (HS_cs : Aside0 (cs.size = 5))
    (H36 : Aside0 (Rets Try.prog 36 #[.agg cs] (.bool true)))
    (H30 : Aside0 (Rets Try.prog 30 #[.int .i64 vd, .int .i64 1000000000] (.bool true)))
    (H35 : Aside0 (Rets Try.prog 35 #[] (.bool true)))
    (H39 : Aside0 (Rets Try.prog 39 #[.agg cs, .int .i64 y] (.int .i64 vd)))
    (HA : Aside0 (∀ z, Rets Try.prog 37 #[.agg cs, .int .i64 z] (.int .i64 (C k a b c d (hold z)))))
    (P0 : Aside0 (C k a b c d (hold 1000000000) ≤ y))
    (P1 : Aside0 (¬ (C k a b c d (hold vd) > y)))
    (P2 : Aside0 (¬ (x < 0)))
    (P3 : Aside0 (x ≥ vd)) :
    Calls Try.prog 20 #[.agg cs, .int .i64 y, .int .i64 x] w fun e w' => e = .returned (.bool true) ∧ Below w.heap.size w w' := by
  have HCl : Aside0 (Cls w ((w.heap.size, cs, 23) :: []) (w.alloc (.cells cs 23 (0, 0)))) := ⟨(Cls.start w).put _ _⟩
  go_enter Try.func20, Try.ntmps20
  go_upto_region 1 with (fail)
  refine wregion_p (C := Cls w ((w.heap.size, cs, 23) :: [])) (HCl.out) ?_
  refine wstep (N := some 8) (v := .agg cs) (a' := ?_) rfl (by rfl) (fun w' h => load_row (h.blk0) rfl rfl Try.underlying23 rfl (by rw [HS_cs.out]; exact info23)) ?_ ?_
  rotate_left
  · simp only [Act.put, List.setIfInBounds_toArray, List.set_cons_zero, List.set_cons_succ]
    rfl
  refine wcall (N := some 9) (a' := ?_) (f := 36) Try.func36 (by kernel_rfl) rfl #[.agg cs] (by rfl) rfl rfl (by (try simp only [List.map_toArray, List.map_cons, List.map_nil]); first | done | rfl) (qcall_cls (v := .bool true) H36.out) ?_ ?_
  rotate_left
  · simp only [Act.put, List.setIfInBounds_toArray, List.set_cons_zero, List.set_cons_succ]
    rfl
  refine wstep (N := some 10) (v := .bool false) (a' := ?_) rfl (by rfl) (fun w' _ => by go_simp) ?_ ?_
  rotate_left
  · simp only [Act.put, List.setIfInBounds_toArray, List.set_cons_zero, List.set_cons_succ]
    rfl
  refine wnil ?_
  intro w_h1 h1_
  have h1 := Aside0.mk h1_
  clear h1_
  go_upto_region 3 with (fail)
  refine wregion_p (C := Cls w ((w.heap.size, cs, 23) :: [])) (h1.out) ?_
  refine wstep (N := some 11) (v := .agg cs) (a' := ?_) rfl (by rfl) (fun w' h => load_row (h.blk0) rfl rfl Try.underlying23 rfl (by rw [HS_cs.out]; exact info23)) ?_ ?_
  rotate_left
  · simp only [Act.put, List.setIfInBounds_toArray, List.set_cons_zero, List.set_cons_succ]
    rfl
  refine wstep (N := some 12) (v := .int .i64 y) (a' := ?_) rfl (by rfl) (fun w' _ => by go_simp) ?_ ?_
  rotate_left
  · simp only [Act.put, List.setIfInBounds_toArray, List.set_cons_zero, List.set_cons_succ]
    rfl
  refine wcall (N := some 13) (a' := ?_) (f := 39) Try.func39 (by kernel_rfl) rfl #[.agg cs, .int .i64 y] (by rfl) rfl rfl (by (try simp only [List.map_toArray, List.map_cons, List.map_nil]); first | done | rfl) (qcall_cls (v := .int .i64 vd) H39.out) ?_ ?_
  rotate_left
  · simp only [Act.put, List.setIfInBounds_toArray, List.set_cons_zero, List.set_cons_succ]
    rfl
  refine wstep (N := some 7) (v := .int .i64 vd) (a' := ?_) rfl (by rfl) (fun w' _ => by go_simp) ?_ ?_
  rotate_left
  · simp only [Act.put, List.setIfInBounds_toArray, List.set_cons_zero, List.set_cons_succ]
    rfl
  refine wnil ?_
  intro w_h3 h3_
  have h3 := Aside0.mk h3_
  clear h3_
  go_upto_region 4 with (fail)
  refine wregion_p (C := Cls w ((w.heap.size, cs, 23) :: [])) (h3.out) ?_
  refine wstep (N := some 14) (v := .int .i64 vd) (a' := ?_) rfl (by rfl) (fun w' _ => by go_simp) ?_ ?_
  rotate_left
  · simp only [Act.put, List.setIfInBounds_toArray, List.set_cons_zero, List.set_cons_succ]
    rfl
  refine wcall (N := some 15) (a' := ?_) (f := 30) Try.func30 (by kernel_rfl) rfl #[.int .i64 vd, .int .i64 1000000000] (by rfl) rfl rfl (by (try simp only [List.map_toArray, List.map_cons, List.map_nil]); first | done | rfl) (qcall_cls (v := .bool true) H30.out) ?_ ?_
  rotate_left
  · simp only [Act.put, List.setIfInBounds_toArray, List.set_cons_zero, List.set_cons_succ]
    rfl
  refine wstep (N := some 16) (v := .bool false) (a' := ?_) rfl (by rfl) (fun w' _ => by go_simp) ?_ ?_
  rotate_left
  · simp only [Act.put, List.setIfInBounds_toArray, List.set_cons_zero, List.set_cons_succ]
    rfl
  refine wnil ?_
  intro w_h4 h4_
  have h4 := Aside0.mk h4_
  clear h4_
  go_upto_region 6 with (fail)
  refine wregion_p (C := Cls w ((w.heap.size, cs, 23) :: [])) (h4.out) ?_
  refine wstep (N := some 17) (v := .agg cs) (a' := ?_) rfl (by rfl) (fun w' h => load_row (h.blk0) rfl rfl Try.underlying23 rfl (by rw [HS_cs.out]; exact info23)) ?_ ?_
  rotate_left
  · simp only [Act.put, List.setIfInBounds_toArray, List.set_cons_zero, List.set_cons_succ]
    rfl
  refine wcall (N := some 18) (a' := ?_) (f := 37) Try.func37 (by kernel_rfl) rfl #[.agg cs, .int .i64 1000000000] (by rfl) rfl rfl (by (try simp only [List.map_toArray, List.map_cons, List.map_nil]); first | done | rfl) (qcall_cls (v := .int .i64 (C k a b c d (hold 1000000000))) (HA.out 1000000000)) ?_ ?_
  rotate_left
  · simp only [Act.put, List.setIfInBounds_toArray, List.set_cons_zero, List.set_cons_succ]
    rfl
  refine wstep (N := some 19) (v := .int .i64 y) (a' := ?_) rfl (by rfl) (fun w' _ => by go_simp) ?_ ?_
  rotate_left
  · simp only [Act.put, List.setIfInBounds_toArray, List.set_cons_zero, List.set_cons_succ]
    rfl
  refine wstep (N := some 20) (v := .bool true) (a' := ?_) rfl (by rfl) (fun w' _ => by go_simp; (try simp only [i64_w]); first | exact P0.out | (have h_ := P0.out; omega) | exact cmp_ P0.out | exact cmpd_ P0.out | exact cmpf_ P0.out) ?_ ?_
  rotate_left
  · simp only [Act.put, List.setIfInBounds_toArray, List.set_cons_zero, List.set_cons_succ]
    rfl
  refine wstep (N := some 21) (v := .bool true) (a' := ?_) rfl (by rfl) (fun w' _ => by go_simp) ?_ ?_
  rotate_left
  · simp only [Act.put, List.setIfInBounds_toArray, List.set_cons_zero, List.set_cons_succ]
    rfl
  refine wstep (N := some 22) (v := .agg cs) (a' := ?_) rfl (by rfl) (fun w' h => load_row (h.blk0) rfl rfl Try.underlying23 rfl (by rw [HS_cs.out]; exact info23)) ?_ ?_
  rotate_left
  · simp only [Act.put, List.setIfInBounds_toArray, List.set_cons_zero, List.set_cons_succ]
    rfl
  refine wstep (N := some 23) (v := .int .i64 vd) (a' := ?_) rfl (by rfl) (fun w' _ => by go_simp) ?_ ?_
  rotate_left
  · simp only [Act.put, List.setIfInBounds_toArray, List.set_cons_zero, List.set_cons_succ]
    rfl
  refine wcall (N := some 24) (a' := ?_) (f := 37) Try.func37 (by kernel_rfl) rfl #[.agg cs, .int .i64 vd] (by rfl) rfl rfl (by (try simp only [List.map_toArray, List.map_cons, List.map_nil]); first | done | rfl) (qcall_cls (v := .int .i64 (C k a b c d (hold vd))) (HA.out vd)) ?_ ?_
  rotate_left
  · simp only [Act.put, List.setIfInBounds_toArray, List.set_cons_zero, List.set_cons_succ]
    rfl
  refine wstep (N := some 25) (v := .int .i64 y) (a' := ?_) rfl (by rfl) (fun w' _ => by go_simp) ?_ ?_
  rotate_left
  · simp only [Act.put, List.setIfInBounds_toArray, List.set_cons_zero, List.set_cons_succ]
    rfl
  refine wstep (N := some 26) (v := .bool false) (a' := ?_) rfl (by rfl) (fun w' _ => by go_simp; (try simp only [i64_w]); first | exact P1.out | (have h_ := P1.out; omega) | exact cmp_ P1.out | exact cmpd_ P1.out | exact cmpf_ P1.out) ?_ ?_
  rotate_left
  · simp only [Act.put, List.setIfInBounds_toArray, List.set_cons_zero, List.set_cons_succ]
    rfl
  refine wstep (N := some 27) (v := .bool false) (a' := ?_) rfl (by rfl) (fun w' _ => by go_simp) ?_ ?_
  rotate_left
  · simp only [Act.put, List.setIfInBounds_toArray, List.set_cons_zero, List.set_cons_succ]
    rfl
  refine wnil ?_
  intro w_h6 h6_
  have h6 := Aside0.mk h6_
  clear h6_
  go_upto_region 8 with (fail)
  refine wregion_p (C := Cls w ((w.heap.size, cs, 23) :: [])) (h6.out) ?_
  refine wstep (N := some 28) (v := .int .i64 x) (a' := ?_) rfl (by rfl) (fun w' _ => by go_simp) ?_ ?_
  rotate_left
  · simp only [Act.put, List.setIfInBounds_toArray, List.set_cons_zero, List.set_cons_succ]
    rfl
  refine wstep (N := some 29) (v := .bool false) (a' := ?_) rfl (by rfl) (fun w' _ => by go_simp; (try simp only [i64_w]); first | exact P2.out | (have h_ := P2.out; omega) | exact cmp_ P2.out | exact cmpd_ P2.out | exact cmpf_ P2.out) ?_ ?_
  rotate_left
  · simp only [Act.put, List.setIfInBounds_toArray, List.set_cons_zero, List.set_cons_succ]
    rfl
  refine wstep (N := some 30) (v := .bool false) (a' := ?_) rfl (by rfl) (fun w' _ => by go_simp) ?_ ?_
  rotate_left
  · simp only [Act.put, List.setIfInBounds_toArray, List.set_cons_zero, List.set_cons_succ]
    rfl
  refine wstep (N := some 31) (v := .int .i64 x) (a' := ?_) rfl (by rfl) (fun w' _ => by go_simp) ?_ ?_
  rotate_left
  · simp only [Act.put, List.setIfInBounds_toArray, List.set_cons_zero, List.set_cons_succ]
    rfl
  refine wstep (N := some 32) (v := .int .i64 vd) (a' := ?_) rfl (by rfl) (fun w' _ => by go_simp) ?_ ?_
  rotate_left
  · simp only [Act.put, List.setIfInBounds_toArray, List.set_cons_zero, List.set_cons_succ]
    rfl
  refine wstep (N := some 33) (v := .bool true) (a' := ?_) rfl (by rfl) (fun w' _ => by go_simp; (try simp only [i64_w]); first | exact P3.out | (have h_ := P3.out; omega) | exact cmp_ P3.out | exact cmpd_ P3.out | exact cmpf_ P3.out) ?_ ?_
  rotate_left
  · simp only [Act.put, List.setIfInBounds_toArray, List.set_cons_zero, List.set_cons_succ]
    rfl
  refine wstep (N := some 34) (v := .bool true) (a' := ?_) rfl (by rfl) (fun w' _ => by go_simp) ?_ ?_
  rotate_left
  · simp only [Act.put, List.setIfInBounds_toArray, List.set_cons_zero, List.set_cons_succ]
    rfl
  refine wstep (N := some 35) (v := .bool true) (a' := ?_) rfl (by rfl) (fun w' _ => by go_simp) ?_ ?_
  rotate_left
  · simp only [Act.put, List.setIfInBounds_toArray, List.set_cons_zero, List.set_cons_succ]
    rfl
  refine wskip (N := some 36) (a' := ?_) rfl (by rfl) ?_ ?_
  rotate_left
  · simp only [Act.put, List.setIfInBounds_toArray, List.set_cons_zero, List.set_cons_succ]
    rfl
  refine wskip (N := some 37) (a' := ?_) rfl (by rfl) ?_ ?_
  rotate_left
  · simp only [Act.put, List.setIfInBounds_toArray, List.set_cons_zero, List.set_cons_succ]
    rfl
  refine wskip (N := some 38) (a' := ?_) rfl (by rfl) ?_ ?_
  rotate_left
  · simp only [Act.put, List.setIfInBounds_toArray, List.set_cons_zero, List.set_cons_succ]
    rfl
  refine wskip (N := some 39) (a' := ?_) rfl (by rfl) ?_ ?_
  rotate_left
  · simp only [Act.put, List.setIfInBounds_toArray, List.set_cons_zero, List.set_cons_succ]
    rfl
  refine wskip (N := some 40) (a' := ?_) rfl (by rfl) ?_ ?_
  rotate_left
  · simp only [Act.put, List.setIfInBounds_toArray, List.set_cons_zero, List.set_cons_succ]
    rfl
  refine wstep (N := some 41) (v := .bool true) (a' := ?_) rfl (by rfl) (fun w' _ => by go_simp) ?_ ?_
  rotate_left
  · simp only [Act.put, List.setIfInBounds_toArray, List.set_cons_zero, List.set_cons_succ]
    rfl
  refine wstep (N := some 42) (v := .bool true) (a' := ?_) rfl (by rfl) (fun w' _ => by go_simp) ?_ ?_
  rotate_left
  · simp only [Act.put, List.setIfInBounds_toArray, List.set_cons_zero, List.set_cons_succ]
    rfl
  refine wcall (N := some 43) (a' := ?_) (f := 35) Try.func35 (by kernel_rfl) rfl #[] (by rfl) rfl rfl (by (try simp only [List.map_toArray, List.map_cons, List.map_nil]); first | done | rfl) (qcall_cls (v := .bool true) H35.out) ?_ ?_
  rotate_left
  · simp only [Act.put, List.setIfInBounds_toArray, List.set_cons_zero, List.set_cons_succ]
    rfl
  refine wstep (N := some 44) (v := .bool true) (a' := ?_) rfl (by rfl) (fun w' _ => by go_simp) ?_ ?_
  rotate_left
  · simp only [Act.put, List.setIfInBounds_toArray, List.set_cons_zero, List.set_cons_succ]
    rfl
  refine wstep (N := some 6) (v := .bool true) (a' := ?_) rfl (by rfl) (fun w' _ => by go_simp) ?_ ?_
  rotate_left
  · simp only [Act.put, List.setIfInBounds_toArray, List.set_cons_zero, List.set_cons_succ]
    rfl
  refine wnil ?_
  intro w_h8 h8_
  have h8 := Aside0.mk h8_
  clear h8_
  go_wp2
  go_ret
  exact ⟨rfl, h8.out.below⟩

set_option maxHeartbeats 4000000 in
set_option maxRecDepth 100000 in
theorem yesEM (cs : Array Value) (y : Int) (x : Int) (k a b c d : Int) (vd : Int) (w : World) (HS_cs : Aside0 (cs.size = 5))
    (H36 : Aside0 (Rets Try.prog 36 #[.agg cs] (.bool true)))
    (H30 : Aside0 (Rets Try.prog 30 #[.int .i64 vd, .int .i64 1000000000] (.bool true)))
    (H35 : Aside0 (Rets Try.prog 35 #[] (.bool true)))
    (H39 : Aside0 (Rets Try.prog 39 #[.agg cs, .int .i64 y] (.int .i64 vd)))
    (HA : Aside0 (∀ z, Rets Try.prog 37 #[.agg cs, .int .i64 z] (.int .i64 (C k a b c d (hold z)))))
    (P0 : Aside0 (C k a b c d (hold 1000000000) ≤ y))
    (P1 : Aside0 (¬ (C k a b c d (hold vd) > y)))
    (P2 : Aside0 (¬ (x < 0)))
    (P3 : Aside0 (¬ (x ≥ vd)))
    (P4 : Aside0 (C k a b c d (hold x) > y)) :
    Calls Try.prog 20 #[.agg cs, .int .i64 y, .int .i64 x] w fun e w' => e = .returned (.bool true) ∧ Below w.heap.size w w' := by
  have HCl : Aside0 (Cls w ((w.heap.size, cs, 23) :: []) (w.alloc (.cells cs 23 (0, 0)))) := ⟨(Cls.start w).put _ _⟩
  go_enter Try.func20, Try.ntmps20
  go_upto_region 1 with (fail)
  refine wregion_p (C := Cls w ((w.heap.size, cs, 23) :: [])) (HCl.out) ?_
  refine wstep (N := some 8) (v := .agg cs) (a' := ?_) rfl (by rfl) (fun w' h => load_row (h.blk0) rfl rfl Try.underlying23 rfl (by rw [HS_cs.out]; exact info23)) ?_ ?_
  rotate_left
  · simp only [Act.put, List.setIfInBounds_toArray, List.set_cons_zero, List.set_cons_succ]
    rfl
  refine wcall (N := some 9) (a' := ?_) (f := 36) Try.func36 (by kernel_rfl) rfl #[.agg cs] (by rfl) rfl rfl (by (try simp only [List.map_toArray, List.map_cons, List.map_nil]); first | done | rfl) (qcall_cls (v := .bool true) H36.out) ?_ ?_
  rotate_left
  · simp only [Act.put, List.setIfInBounds_toArray, List.set_cons_zero, List.set_cons_succ]
    rfl
  refine wstep (N := some 10) (v := .bool false) (a' := ?_) rfl (by rfl) (fun w' _ => by go_simp) ?_ ?_
  rotate_left
  · simp only [Act.put, List.setIfInBounds_toArray, List.set_cons_zero, List.set_cons_succ]
    rfl
  refine wnil ?_
  intro w_h1 h1_
  have h1 := Aside0.mk h1_
  clear h1_
  go_upto_region 3 with (fail)
  refine wregion_p (C := Cls w ((w.heap.size, cs, 23) :: [])) (h1.out) ?_
  refine wstep (N := some 11) (v := .agg cs) (a' := ?_) rfl (by rfl) (fun w' h => load_row (h.blk0) rfl rfl Try.underlying23 rfl (by rw [HS_cs.out]; exact info23)) ?_ ?_
  rotate_left
  · simp only [Act.put, List.setIfInBounds_toArray, List.set_cons_zero, List.set_cons_succ]
    rfl
  refine wstep (N := some 12) (v := .int .i64 y) (a' := ?_) rfl (by rfl) (fun w' _ => by go_simp) ?_ ?_
  rotate_left
  · simp only [Act.put, List.setIfInBounds_toArray, List.set_cons_zero, List.set_cons_succ]
    rfl
  refine wcall (N := some 13) (a' := ?_) (f := 39) Try.func39 (by kernel_rfl) rfl #[.agg cs, .int .i64 y] (by rfl) rfl rfl (by (try simp only [List.map_toArray, List.map_cons, List.map_nil]); first | done | rfl) (qcall_cls (v := .int .i64 vd) H39.out) ?_ ?_
  rotate_left
  · simp only [Act.put, List.setIfInBounds_toArray, List.set_cons_zero, List.set_cons_succ]
    rfl
  refine wstep (N := some 7) (v := .int .i64 vd) (a' := ?_) rfl (by rfl) (fun w' _ => by go_simp) ?_ ?_
  rotate_left
  · simp only [Act.put, List.setIfInBounds_toArray, List.set_cons_zero, List.set_cons_succ]
    rfl
  refine wnil ?_
  intro w_h3 h3_
  have h3 := Aside0.mk h3_
  clear h3_
  go_upto_region 4 with (fail)
  refine wregion_p (C := Cls w ((w.heap.size, cs, 23) :: [])) (h3.out) ?_
  refine wstep (N := some 14) (v := .int .i64 vd) (a' := ?_) rfl (by rfl) (fun w' _ => by go_simp) ?_ ?_
  rotate_left
  · simp only [Act.put, List.setIfInBounds_toArray, List.set_cons_zero, List.set_cons_succ]
    rfl
  refine wcall (N := some 15) (a' := ?_) (f := 30) Try.func30 (by kernel_rfl) rfl #[.int .i64 vd, .int .i64 1000000000] (by rfl) rfl rfl (by (try simp only [List.map_toArray, List.map_cons, List.map_nil]); first | done | rfl) (qcall_cls (v := .bool true) H30.out) ?_ ?_
  rotate_left
  · simp only [Act.put, List.setIfInBounds_toArray, List.set_cons_zero, List.set_cons_succ]
    rfl
  refine wstep (N := some 16) (v := .bool false) (a' := ?_) rfl (by rfl) (fun w' _ => by go_simp) ?_ ?_
  rotate_left
  · simp only [Act.put, List.setIfInBounds_toArray, List.set_cons_zero, List.set_cons_succ]
    rfl
  refine wnil ?_
  intro w_h4 h4_
  have h4 := Aside0.mk h4_
  clear h4_
  go_upto_region 6 with (fail)
  refine wregion_p (C := Cls w ((w.heap.size, cs, 23) :: [])) (h4.out) ?_
  refine wstep (N := some 17) (v := .agg cs) (a' := ?_) rfl (by rfl) (fun w' h => load_row (h.blk0) rfl rfl Try.underlying23 rfl (by rw [HS_cs.out]; exact info23)) ?_ ?_
  rotate_left
  · simp only [Act.put, List.setIfInBounds_toArray, List.set_cons_zero, List.set_cons_succ]
    rfl
  refine wcall (N := some 18) (a' := ?_) (f := 37) Try.func37 (by kernel_rfl) rfl #[.agg cs, .int .i64 1000000000] (by rfl) rfl rfl (by (try simp only [List.map_toArray, List.map_cons, List.map_nil]); first | done | rfl) (qcall_cls (v := .int .i64 (C k a b c d (hold 1000000000))) (HA.out 1000000000)) ?_ ?_
  rotate_left
  · simp only [Act.put, List.setIfInBounds_toArray, List.set_cons_zero, List.set_cons_succ]
    rfl
  refine wstep (N := some 19) (v := .int .i64 y) (a' := ?_) rfl (by rfl) (fun w' _ => by go_simp) ?_ ?_
  rotate_left
  · simp only [Act.put, List.setIfInBounds_toArray, List.set_cons_zero, List.set_cons_succ]
    rfl
  refine wstep (N := some 20) (v := .bool true) (a' := ?_) rfl (by rfl) (fun w' _ => by go_simp; (try simp only [i64_w]); first | exact P0.out | (have h_ := P0.out; omega) | exact cmp_ P0.out | exact cmpd_ P0.out | exact cmpf_ P0.out) ?_ ?_
  rotate_left
  · simp only [Act.put, List.setIfInBounds_toArray, List.set_cons_zero, List.set_cons_succ]
    rfl
  refine wstep (N := some 21) (v := .bool true) (a' := ?_) rfl (by rfl) (fun w' _ => by go_simp) ?_ ?_
  rotate_left
  · simp only [Act.put, List.setIfInBounds_toArray, List.set_cons_zero, List.set_cons_succ]
    rfl
  refine wstep (N := some 22) (v := .agg cs) (a' := ?_) rfl (by rfl) (fun w' h => load_row (h.blk0) rfl rfl Try.underlying23 rfl (by rw [HS_cs.out]; exact info23)) ?_ ?_
  rotate_left
  · simp only [Act.put, List.setIfInBounds_toArray, List.set_cons_zero, List.set_cons_succ]
    rfl
  refine wstep (N := some 23) (v := .int .i64 vd) (a' := ?_) rfl (by rfl) (fun w' _ => by go_simp) ?_ ?_
  rotate_left
  · simp only [Act.put, List.setIfInBounds_toArray, List.set_cons_zero, List.set_cons_succ]
    rfl
  refine wcall (N := some 24) (a' := ?_) (f := 37) Try.func37 (by kernel_rfl) rfl #[.agg cs, .int .i64 vd] (by rfl) rfl rfl (by (try simp only [List.map_toArray, List.map_cons, List.map_nil]); first | done | rfl) (qcall_cls (v := .int .i64 (C k a b c d (hold vd))) (HA.out vd)) ?_ ?_
  rotate_left
  · simp only [Act.put, List.setIfInBounds_toArray, List.set_cons_zero, List.set_cons_succ]
    rfl
  refine wstep (N := some 25) (v := .int .i64 y) (a' := ?_) rfl (by rfl) (fun w' _ => by go_simp) ?_ ?_
  rotate_left
  · simp only [Act.put, List.setIfInBounds_toArray, List.set_cons_zero, List.set_cons_succ]
    rfl
  refine wstep (N := some 26) (v := .bool false) (a' := ?_) rfl (by rfl) (fun w' _ => by go_simp; (try simp only [i64_w]); first | exact P1.out | (have h_ := P1.out; omega) | exact cmp_ P1.out | exact cmpd_ P1.out | exact cmpf_ P1.out) ?_ ?_
  rotate_left
  · simp only [Act.put, List.setIfInBounds_toArray, List.set_cons_zero, List.set_cons_succ]
    rfl
  refine wstep (N := some 27) (v := .bool false) (a' := ?_) rfl (by rfl) (fun w' _ => by go_simp) ?_ ?_
  rotate_left
  · simp only [Act.put, List.setIfInBounds_toArray, List.set_cons_zero, List.set_cons_succ]
    rfl
  refine wnil ?_
  intro w_h6 h6_
  have h6 := Aside0.mk h6_
  clear h6_
  go_upto_region 8 with (fail)
  refine wregion_p (C := Cls w ((w.heap.size, cs, 23) :: [])) (h6.out) ?_
  refine wstep (N := some 28) (v := .int .i64 x) (a' := ?_) rfl (by rfl) (fun w' _ => by go_simp) ?_ ?_
  rotate_left
  · simp only [Act.put, List.setIfInBounds_toArray, List.set_cons_zero, List.set_cons_succ]
    rfl
  refine wstep (N := some 29) (v := .bool false) (a' := ?_) rfl (by rfl) (fun w' _ => by go_simp; (try simp only [i64_w]); first | exact P2.out | (have h_ := P2.out; omega) | exact cmp_ P2.out | exact cmpd_ P2.out | exact cmpf_ P2.out) ?_ ?_
  rotate_left
  · simp only [Act.put, List.setIfInBounds_toArray, List.set_cons_zero, List.set_cons_succ]
    rfl
  refine wstep (N := some 30) (v := .bool false) (a' := ?_) rfl (by rfl) (fun w' _ => by go_simp) ?_ ?_
  rotate_left
  · simp only [Act.put, List.setIfInBounds_toArray, List.set_cons_zero, List.set_cons_succ]
    rfl
  refine wstep (N := some 31) (v := .int .i64 x) (a' := ?_) rfl (by rfl) (fun w' _ => by go_simp) ?_ ?_
  rotate_left
  · simp only [Act.put, List.setIfInBounds_toArray, List.set_cons_zero, List.set_cons_succ]
    rfl
  refine wstep (N := some 32) (v := .int .i64 vd) (a' := ?_) rfl (by rfl) (fun w' _ => by go_simp) ?_ ?_
  rotate_left
  · simp only [Act.put, List.setIfInBounds_toArray, List.set_cons_zero, List.set_cons_succ]
    rfl
  refine wstep (N := some 33) (v := .bool false) (a' := ?_) rfl (by rfl) (fun w' _ => by go_simp; (try simp only [i64_w]); first | exact P3.out | (have h_ := P3.out; omega) | exact cmp_ P3.out | exact cmpd_ P3.out | exact cmpf_ P3.out) ?_ ?_
  rotate_left
  · simp only [Act.put, List.setIfInBounds_toArray, List.set_cons_zero, List.set_cons_succ]
    rfl
  refine wstep (N := some 34) (v := .bool false) (a' := ?_) rfl (by rfl) (fun w' _ => by go_simp) ?_ ?_
  rotate_left
  · simp only [Act.put, List.setIfInBounds_toArray, List.set_cons_zero, List.set_cons_succ]
    rfl
  refine wstep (N := some 35) (v := .bool false) (a' := ?_) rfl (by rfl) (fun w' _ => by go_simp) ?_ ?_
  rotate_left
  · simp only [Act.put, List.setIfInBounds_toArray, List.set_cons_zero, List.set_cons_succ]
    rfl
  refine wstep (N := some 36) (v := .agg cs) (a' := ?_) rfl (by rfl) (fun w' h => load_row (h.blk0) rfl rfl Try.underlying23 rfl (by rw [HS_cs.out]; exact info23)) ?_ ?_
  rotate_left
  · simp only [Act.put, List.setIfInBounds_toArray, List.set_cons_zero, List.set_cons_succ]
    rfl
  refine wstep (N := some 37) (v := .int .i64 x) (a' := ?_) rfl (by rfl) (fun w' _ => by go_simp) ?_ ?_
  rotate_left
  · simp only [Act.put, List.setIfInBounds_toArray, List.set_cons_zero, List.set_cons_succ]
    rfl
  refine wcall (N := some 38) (a' := ?_) (f := 37) Try.func37 (by kernel_rfl) rfl #[.agg cs, .int .i64 x] (by rfl) rfl rfl (by (try simp only [List.map_toArray, List.map_cons, List.map_nil]); first | done | rfl) (qcall_cls (v := .int .i64 (C k a b c d (hold x))) (HA.out x)) ?_ ?_
  rotate_left
  · simp only [Act.put, List.setIfInBounds_toArray, List.set_cons_zero, List.set_cons_succ]
    rfl
  refine wstep (N := some 39) (v := .int .i64 y) (a' := ?_) rfl (by rfl) (fun w' _ => by go_simp) ?_ ?_
  rotate_left
  · simp only [Act.put, List.setIfInBounds_toArray, List.set_cons_zero, List.set_cons_succ]
    rfl
  refine wstep (N := some 40) (v := .bool true) (a' := ?_) rfl (by rfl) (fun w' _ => by go_simp; (try simp only [i64_w]); first | exact P4.out | (have h_ := P4.out; omega) | exact cmp_ P4.out | exact cmpd_ P4.out | exact cmpf_ P4.out) ?_ ?_
  rotate_left
  · simp only [Act.put, List.setIfInBounds_toArray, List.set_cons_zero, List.set_cons_succ]
    rfl
  refine wstep (N := some 41) (v := .bool true) (a' := ?_) rfl (by rfl) (fun w' _ => by go_simp) ?_ ?_
  rotate_left
  · simp only [Act.put, List.setIfInBounds_toArray, List.set_cons_zero, List.set_cons_succ]
    rfl
  refine wstep (N := some 42) (v := .bool true) (a' := ?_) rfl (by rfl) (fun w' _ => by go_simp) ?_ ?_
  rotate_left
  · simp only [Act.put, List.setIfInBounds_toArray, List.set_cons_zero, List.set_cons_succ]
    rfl
  refine wcall (N := some 43) (a' := ?_) (f := 35) Try.func35 (by kernel_rfl) rfl #[] (by rfl) rfl rfl (by (try simp only [List.map_toArray, List.map_cons, List.map_nil]); first | done | rfl) (qcall_cls (v := .bool true) H35.out) ?_ ?_
  rotate_left
  · simp only [Act.put, List.setIfInBounds_toArray, List.set_cons_zero, List.set_cons_succ]
    rfl
  refine wstep (N := some 44) (v := .bool true) (a' := ?_) rfl (by rfl) (fun w' _ => by go_simp) ?_ ?_
  rotate_left
  · simp only [Act.put, List.setIfInBounds_toArray, List.set_cons_zero, List.set_cons_succ]
    rfl
  refine wstep (N := some 6) (v := .bool true) (a' := ?_) rfl (by rfl) (fun w' _ => by go_simp) ?_ ?_
  rotate_left
  · simp only [Act.put, List.setIfInBounds_toArray, List.set_cons_zero, List.set_cons_succ]
    rfl
  refine wnil ?_
  intro w_h8 h8_
  have h8 := Aside0.mk h8_
  clear h8_
  go_wp2
  go_ret
  exact ⟨rfl, h8.out.below⟩

set_option maxHeartbeats 4000000 in
set_option maxRecDepth 100000 in
theorem yesNL (cs : Array Value) (y : Int) (x : Int) (k a b c d : Int) (vd : Int) (w : World) (HS_cs : Aside0 (cs.size = 5))
    (H36 : Aside0 (Rets Try.prog 36 #[.agg cs] (.bool true)))
    (H30 : Aside0 (Rets Try.prog 30 #[.int .i64 vd, .int .i64 1000000000] (.bool true)))
    (H35 : Aside0 (Rets Try.prog 35 #[] (.bool true)))
    (H39 : Aside0 (Rets Try.prog 39 #[.agg cs, .int .i64 y] (.int .i64 vd)))
    (HA : Aside0 (∀ z, Rets Try.prog 37 #[.agg cs, .int .i64 z] (.int .i64 (C k a b c d (hold z)))))
    (P0 : Aside0 (¬ (C k a b c d (hold 1000000000) ≤ y)))
    (P1 : Aside0 (x < 0)) :
    Calls Try.prog 20 #[.agg cs, .int .i64 y, .int .i64 x] w fun e w' => e = .returned (.bool true) ∧ Below w.heap.size w w' := by
  have HCl : Aside0 (Cls w ((w.heap.size, cs, 23) :: []) (w.alloc (.cells cs 23 (0, 0)))) := ⟨(Cls.start w).put _ _⟩
  go_enter Try.func20, Try.ntmps20
  go_upto_region 1 with (fail)
  refine wregion_p (C := Cls w ((w.heap.size, cs, 23) :: [])) (HCl.out) ?_
  refine wstep (N := some 8) (v := .agg cs) (a' := ?_) rfl (by rfl) (fun w' h => load_row (h.blk0) rfl rfl Try.underlying23 rfl (by rw [HS_cs.out]; exact info23)) ?_ ?_
  rotate_left
  · simp only [Act.put, List.setIfInBounds_toArray, List.set_cons_zero, List.set_cons_succ]
    rfl
  refine wcall (N := some 9) (a' := ?_) (f := 36) Try.func36 (by kernel_rfl) rfl #[.agg cs] (by rfl) rfl rfl (by (try simp only [List.map_toArray, List.map_cons, List.map_nil]); first | done | rfl) (qcall_cls (v := .bool true) H36.out) ?_ ?_
  rotate_left
  · simp only [Act.put, List.setIfInBounds_toArray, List.set_cons_zero, List.set_cons_succ]
    rfl
  refine wstep (N := some 10) (v := .bool false) (a' := ?_) rfl (by rfl) (fun w' _ => by go_simp) ?_ ?_
  rotate_left
  · simp only [Act.put, List.setIfInBounds_toArray, List.set_cons_zero, List.set_cons_succ]
    rfl
  refine wnil ?_
  intro w_h1 h1_
  have h1 := Aside0.mk h1_
  clear h1_
  go_upto_region 3 with (fail)
  refine wregion_p (C := Cls w ((w.heap.size, cs, 23) :: [])) (h1.out) ?_
  refine wstep (N := some 11) (v := .agg cs) (a' := ?_) rfl (by rfl) (fun w' h => load_row (h.blk0) rfl rfl Try.underlying23 rfl (by rw [HS_cs.out]; exact info23)) ?_ ?_
  rotate_left
  · simp only [Act.put, List.setIfInBounds_toArray, List.set_cons_zero, List.set_cons_succ]
    rfl
  refine wstep (N := some 12) (v := .int .i64 y) (a' := ?_) rfl (by rfl) (fun w' _ => by go_simp) ?_ ?_
  rotate_left
  · simp only [Act.put, List.setIfInBounds_toArray, List.set_cons_zero, List.set_cons_succ]
    rfl
  refine wcall (N := some 13) (a' := ?_) (f := 39) Try.func39 (by kernel_rfl) rfl #[.agg cs, .int .i64 y] (by rfl) rfl rfl (by (try simp only [List.map_toArray, List.map_cons, List.map_nil]); first | done | rfl) (qcall_cls (v := .int .i64 vd) H39.out) ?_ ?_
  rotate_left
  · simp only [Act.put, List.setIfInBounds_toArray, List.set_cons_zero, List.set_cons_succ]
    rfl
  refine wstep (N := some 7) (v := .int .i64 vd) (a' := ?_) rfl (by rfl) (fun w' _ => by go_simp) ?_ ?_
  rotate_left
  · simp only [Act.put, List.setIfInBounds_toArray, List.set_cons_zero, List.set_cons_succ]
    rfl
  refine wnil ?_
  intro w_h3 h3_
  have h3 := Aside0.mk h3_
  clear h3_
  go_upto_region 4 with (fail)
  refine wregion_p (C := Cls w ((w.heap.size, cs, 23) :: [])) (h3.out) ?_
  refine wstep (N := some 14) (v := .int .i64 vd) (a' := ?_) rfl (by rfl) (fun w' _ => by go_simp) ?_ ?_
  rotate_left
  · simp only [Act.put, List.setIfInBounds_toArray, List.set_cons_zero, List.set_cons_succ]
    rfl
  refine wcall (N := some 15) (a' := ?_) (f := 30) Try.func30 (by kernel_rfl) rfl #[.int .i64 vd, .int .i64 1000000000] (by rfl) rfl rfl (by (try simp only [List.map_toArray, List.map_cons, List.map_nil]); first | done | rfl) (qcall_cls (v := .bool true) H30.out) ?_ ?_
  rotate_left
  · simp only [Act.put, List.setIfInBounds_toArray, List.set_cons_zero, List.set_cons_succ]
    rfl
  refine wstep (N := some 16) (v := .bool false) (a' := ?_) rfl (by rfl) (fun w' _ => by go_simp) ?_ ?_
  rotate_left
  · simp only [Act.put, List.setIfInBounds_toArray, List.set_cons_zero, List.set_cons_succ]
    rfl
  refine wnil ?_
  intro w_h4 h4_
  have h4 := Aside0.mk h4_
  clear h4_
  go_upto_region 6 with (fail)
  refine wregion_p (C := Cls w ((w.heap.size, cs, 23) :: [])) (h4.out) ?_
  refine wstep (N := some 17) (v := .agg cs) (a' := ?_) rfl (by rfl) (fun w' h => load_row (h.blk0) rfl rfl Try.underlying23 rfl (by rw [HS_cs.out]; exact info23)) ?_ ?_
  rotate_left
  · simp only [Act.put, List.setIfInBounds_toArray, List.set_cons_zero, List.set_cons_succ]
    rfl
  refine wcall (N := some 18) (a' := ?_) (f := 37) Try.func37 (by kernel_rfl) rfl #[.agg cs, .int .i64 1000000000] (by rfl) rfl rfl (by (try simp only [List.map_toArray, List.map_cons, List.map_nil]); first | done | rfl) (qcall_cls (v := .int .i64 (C k a b c d (hold 1000000000))) (HA.out 1000000000)) ?_ ?_
  rotate_left
  · simp only [Act.put, List.setIfInBounds_toArray, List.set_cons_zero, List.set_cons_succ]
    rfl
  refine wstep (N := some 19) (v := .int .i64 y) (a' := ?_) rfl (by rfl) (fun w' _ => by go_simp) ?_ ?_
  rotate_left
  · simp only [Act.put, List.setIfInBounds_toArray, List.set_cons_zero, List.set_cons_succ]
    rfl
  refine wstep (N := some 20) (v := .bool false) (a' := ?_) rfl (by rfl) (fun w' _ => by go_simp; (try simp only [i64_w]); first | exact P0.out | (have h_ := P0.out; omega) | exact cmp_ P0.out | exact cmpd_ P0.out | exact cmpf_ P0.out) ?_ ?_
  rotate_left
  · simp only [Act.put, List.setIfInBounds_toArray, List.set_cons_zero, List.set_cons_succ]
    rfl
  refine wstep (N := some 21) (v := .bool false) (a' := ?_) rfl (by rfl) (fun w' _ => by go_simp) ?_ ?_
  rotate_left
  · simp only [Act.put, List.setIfInBounds_toArray, List.set_cons_zero, List.set_cons_succ]
    rfl
  refine wskip (N := some 22) (a' := ?_) rfl (by rfl) ?_ ?_
  rotate_left
  · simp only [Act.put, List.setIfInBounds_toArray, List.set_cons_zero, List.set_cons_succ]
    rfl
  refine wskip (N := some 23) (a' := ?_) rfl (by rfl) ?_ ?_
  rotate_left
  · simp only [Act.put, List.setIfInBounds_toArray, List.set_cons_zero, List.set_cons_succ]
    rfl
  refine wskip (N := some 24) (a' := ?_) rfl (by rfl) ?_ ?_
  rotate_left
  · simp only [Act.put, List.setIfInBounds_toArray, List.set_cons_zero, List.set_cons_succ]
    rfl
  refine wskip (N := some 25) (a' := ?_) rfl (by rfl) ?_ ?_
  rotate_left
  · simp only [Act.put, List.setIfInBounds_toArray, List.set_cons_zero, List.set_cons_succ]
    rfl
  refine wskip (N := some 26) (a' := ?_) rfl (by rfl) ?_ ?_
  rotate_left
  · simp only [Act.put, List.setIfInBounds_toArray, List.set_cons_zero, List.set_cons_succ]
    rfl
  refine wstep (N := some 27) (v := .bool false) (a' := ?_) rfl (by rfl) (fun w' _ => by go_simp) ?_ ?_
  rotate_left
  · simp only [Act.put, List.setIfInBounds_toArray, List.set_cons_zero, List.set_cons_succ]
    rfl
  refine wnil ?_
  intro w_h6 h6_
  have h6 := Aside0.mk h6_
  clear h6_
  go_upto_region 8 with (fail)
  refine wregion_p (C := Cls w ((w.heap.size, cs, 23) :: [])) (h6.out) ?_
  refine wstep (N := some 28) (v := .int .i64 x) (a' := ?_) rfl (by rfl) (fun w' _ => by go_simp) ?_ ?_
  rotate_left
  · simp only [Act.put, List.setIfInBounds_toArray, List.set_cons_zero, List.set_cons_succ]
    rfl
  refine wstep (N := some 29) (v := .bool true) (a' := ?_) rfl (by rfl) (fun w' _ => by go_simp; (try simp only [i64_w]); first | exact P1.out | (have h_ := P1.out; omega) | exact cmp_ P1.out | exact cmpd_ P1.out | exact cmpf_ P1.out) ?_ ?_
  rotate_left
  · simp only [Act.put, List.setIfInBounds_toArray, List.set_cons_zero, List.set_cons_succ]
    rfl
  refine wstep (N := some 30) (v := .bool true) (a' := ?_) rfl (by rfl) (fun w' _ => by go_simp) ?_ ?_
  rotate_left
  · simp only [Act.put, List.setIfInBounds_toArray, List.set_cons_zero, List.set_cons_succ]
    rfl
  refine wskip (N := some 31) (a' := ?_) rfl (by rfl) ?_ ?_
  rotate_left
  · simp only [Act.put, List.setIfInBounds_toArray, List.set_cons_zero, List.set_cons_succ]
    rfl
  refine wskip (N := some 32) (a' := ?_) rfl (by rfl) ?_ ?_
  rotate_left
  · simp only [Act.put, List.setIfInBounds_toArray, List.set_cons_zero, List.set_cons_succ]
    rfl
  refine wskip (N := some 33) (a' := ?_) rfl (by rfl) ?_ ?_
  rotate_left
  · simp only [Act.put, List.setIfInBounds_toArray, List.set_cons_zero, List.set_cons_succ]
    rfl
  refine wstep (N := some 34) (v := .bool true) (a' := ?_) rfl (by rfl) (fun w' _ => by go_simp) ?_ ?_
  rotate_left
  · simp only [Act.put, List.setIfInBounds_toArray, List.set_cons_zero, List.set_cons_succ]
    rfl
  refine wstep (N := some 35) (v := .bool true) (a' := ?_) rfl (by rfl) (fun w' _ => by go_simp) ?_ ?_
  rotate_left
  · simp only [Act.put, List.setIfInBounds_toArray, List.set_cons_zero, List.set_cons_succ]
    rfl
  refine wskip (N := some 36) (a' := ?_) rfl (by rfl) ?_ ?_
  rotate_left
  · simp only [Act.put, List.setIfInBounds_toArray, List.set_cons_zero, List.set_cons_succ]
    rfl
  refine wskip (N := some 37) (a' := ?_) rfl (by rfl) ?_ ?_
  rotate_left
  · simp only [Act.put, List.setIfInBounds_toArray, List.set_cons_zero, List.set_cons_succ]
    rfl
  refine wskip (N := some 38) (a' := ?_) rfl (by rfl) ?_ ?_
  rotate_left
  · simp only [Act.put, List.setIfInBounds_toArray, List.set_cons_zero, List.set_cons_succ]
    rfl
  refine wskip (N := some 39) (a' := ?_) rfl (by rfl) ?_ ?_
  rotate_left
  · simp only [Act.put, List.setIfInBounds_toArray, List.set_cons_zero, List.set_cons_succ]
    rfl
  refine wskip (N := some 40) (a' := ?_) rfl (by rfl) ?_ ?_
  rotate_left
  · simp only [Act.put, List.setIfInBounds_toArray, List.set_cons_zero, List.set_cons_succ]
    rfl
  refine wstep (N := some 41) (v := .bool true) (a' := ?_) rfl (by rfl) (fun w' _ => by go_simp) ?_ ?_
  rotate_left
  · simp only [Act.put, List.setIfInBounds_toArray, List.set_cons_zero, List.set_cons_succ]
    rfl
  refine wstep (N := some 42) (v := .bool true) (a' := ?_) rfl (by rfl) (fun w' _ => by go_simp) ?_ ?_
  rotate_left
  · simp only [Act.put, List.setIfInBounds_toArray, List.set_cons_zero, List.set_cons_succ]
    rfl
  refine wcall (N := some 43) (a' := ?_) (f := 35) Try.func35 (by kernel_rfl) rfl #[] (by rfl) rfl rfl (by (try simp only [List.map_toArray, List.map_cons, List.map_nil]); first | done | rfl) (qcall_cls (v := .bool true) H35.out) ?_ ?_
  rotate_left
  · simp only [Act.put, List.setIfInBounds_toArray, List.set_cons_zero, List.set_cons_succ]
    rfl
  refine wstep (N := some 44) (v := .bool true) (a' := ?_) rfl (by rfl) (fun w' _ => by go_simp) ?_ ?_
  rotate_left
  · simp only [Act.put, List.setIfInBounds_toArray, List.set_cons_zero, List.set_cons_succ]
    rfl
  refine wstep (N := some 6) (v := .bool true) (a' := ?_) rfl (by rfl) (fun w' _ => by go_simp) ?_ ?_
  rotate_left
  · simp only [Act.put, List.setIfInBounds_toArray, List.set_cons_zero, List.set_cons_succ]
    rfl
  refine wnil ?_
  intro w_h8 h8_
  have h8 := Aside0.mk h8_
  clear h8_
  go_wp2
  go_ret
  exact ⟨rfl, h8.out.below⟩

set_option maxHeartbeats 4000000 in
set_option maxRecDepth 100000 in
theorem yesNG (cs : Array Value) (y : Int) (x : Int) (k a b c d : Int) (vd : Int) (w : World) (HS_cs : Aside0 (cs.size = 5))
    (H36 : Aside0 (Rets Try.prog 36 #[.agg cs] (.bool true)))
    (H30 : Aside0 (Rets Try.prog 30 #[.int .i64 vd, .int .i64 1000000000] (.bool true)))
    (H35 : Aside0 (Rets Try.prog 35 #[] (.bool true)))
    (H39 : Aside0 (Rets Try.prog 39 #[.agg cs, .int .i64 y] (.int .i64 vd)))
    (HA : Aside0 (∀ z, Rets Try.prog 37 #[.agg cs, .int .i64 z] (.int .i64 (C k a b c d (hold z)))))
    (P0 : Aside0 (¬ (C k a b c d (hold 1000000000) ≤ y)))
    (P1 : Aside0 (¬ (x < 0)))
    (P2 : Aside0 (x ≥ vd)) :
    Calls Try.prog 20 #[.agg cs, .int .i64 y, .int .i64 x] w fun e w' => e = .returned (.bool true) ∧ Below w.heap.size w w' := by
  have HCl : Aside0 (Cls w ((w.heap.size, cs, 23) :: []) (w.alloc (.cells cs 23 (0, 0)))) := ⟨(Cls.start w).put _ _⟩
  go_enter Try.func20, Try.ntmps20
  go_upto_region 1 with (fail)
  refine wregion_p (C := Cls w ((w.heap.size, cs, 23) :: [])) (HCl.out) ?_
  refine wstep (N := some 8) (v := .agg cs) (a' := ?_) rfl (by rfl) (fun w' h => load_row (h.blk0) rfl rfl Try.underlying23 rfl (by rw [HS_cs.out]; exact info23)) ?_ ?_
  rotate_left
  · simp only [Act.put, List.setIfInBounds_toArray, List.set_cons_zero, List.set_cons_succ]
    rfl
  refine wcall (N := some 9) (a' := ?_) (f := 36) Try.func36 (by kernel_rfl) rfl #[.agg cs] (by rfl) rfl rfl (by (try simp only [List.map_toArray, List.map_cons, List.map_nil]); first | done | rfl) (qcall_cls (v := .bool true) H36.out) ?_ ?_
  rotate_left
  · simp only [Act.put, List.setIfInBounds_toArray, List.set_cons_zero, List.set_cons_succ]
    rfl
  refine wstep (N := some 10) (v := .bool false) (a' := ?_) rfl (by rfl) (fun w' _ => by go_simp) ?_ ?_
  rotate_left
  · simp only [Act.put, List.setIfInBounds_toArray, List.set_cons_zero, List.set_cons_succ]
    rfl
  refine wnil ?_
  intro w_h1 h1_
  have h1 := Aside0.mk h1_
  clear h1_
  go_upto_region 3 with (fail)
  refine wregion_p (C := Cls w ((w.heap.size, cs, 23) :: [])) (h1.out) ?_
  refine wstep (N := some 11) (v := .agg cs) (a' := ?_) rfl (by rfl) (fun w' h => load_row (h.blk0) rfl rfl Try.underlying23 rfl (by rw [HS_cs.out]; exact info23)) ?_ ?_
  rotate_left
  · simp only [Act.put, List.setIfInBounds_toArray, List.set_cons_zero, List.set_cons_succ]
    rfl
  refine wstep (N := some 12) (v := .int .i64 y) (a' := ?_) rfl (by rfl) (fun w' _ => by go_simp) ?_ ?_
  rotate_left
  · simp only [Act.put, List.setIfInBounds_toArray, List.set_cons_zero, List.set_cons_succ]
    rfl
  refine wcall (N := some 13) (a' := ?_) (f := 39) Try.func39 (by kernel_rfl) rfl #[.agg cs, .int .i64 y] (by rfl) rfl rfl (by (try simp only [List.map_toArray, List.map_cons, List.map_nil]); first | done | rfl) (qcall_cls (v := .int .i64 vd) H39.out) ?_ ?_
  rotate_left
  · simp only [Act.put, List.setIfInBounds_toArray, List.set_cons_zero, List.set_cons_succ]
    rfl
  refine wstep (N := some 7) (v := .int .i64 vd) (a' := ?_) rfl (by rfl) (fun w' _ => by go_simp) ?_ ?_
  rotate_left
  · simp only [Act.put, List.setIfInBounds_toArray, List.set_cons_zero, List.set_cons_succ]
    rfl
  refine wnil ?_
  intro w_h3 h3_
  have h3 := Aside0.mk h3_
  clear h3_
  go_upto_region 4 with (fail)
  refine wregion_p (C := Cls w ((w.heap.size, cs, 23) :: [])) (h3.out) ?_
  refine wstep (N := some 14) (v := .int .i64 vd) (a' := ?_) rfl (by rfl) (fun w' _ => by go_simp) ?_ ?_
  rotate_left
  · simp only [Act.put, List.setIfInBounds_toArray, List.set_cons_zero, List.set_cons_succ]
    rfl
  refine wcall (N := some 15) (a' := ?_) (f := 30) Try.func30 (by kernel_rfl) rfl #[.int .i64 vd, .int .i64 1000000000] (by rfl) rfl rfl (by (try simp only [List.map_toArray, List.map_cons, List.map_nil]); first | done | rfl) (qcall_cls (v := .bool true) H30.out) ?_ ?_
  rotate_left
  · simp only [Act.put, List.setIfInBounds_toArray, List.set_cons_zero, List.set_cons_succ]
    rfl
  refine wstep (N := some 16) (v := .bool false) (a' := ?_) rfl (by rfl) (fun w' _ => by go_simp) ?_ ?_
  rotate_left
  · simp only [Act.put, List.setIfInBounds_toArray, List.set_cons_zero, List.set_cons_succ]
    rfl
  refine wnil ?_
  intro w_h4 h4_
  have h4 := Aside0.mk h4_
  clear h4_
  go_upto_region 6 with (fail)
  refine wregion_p (C := Cls w ((w.heap.size, cs, 23) :: [])) (h4.out) ?_
  refine wstep (N := some 17) (v := .agg cs) (a' := ?_) rfl (by rfl) (fun w' h => load_row (h.blk0) rfl rfl Try.underlying23 rfl (by rw [HS_cs.out]; exact info23)) ?_ ?_
  rotate_left
  · simp only [Act.put, List.setIfInBounds_toArray, List.set_cons_zero, List.set_cons_succ]
    rfl
  refine wcall (N := some 18) (a' := ?_) (f := 37) Try.func37 (by kernel_rfl) rfl #[.agg cs, .int .i64 1000000000] (by rfl) rfl rfl (by (try simp only [List.map_toArray, List.map_cons, List.map_nil]); first | done | rfl) (qcall_cls (v := .int .i64 (C k a b c d (hold 1000000000))) (HA.out 1000000000)) ?_ ?_
  rotate_left
  · simp only [Act.put, List.setIfInBounds_toArray, List.set_cons_zero, List.set_cons_succ]
    rfl
  refine wstep (N := some 19) (v := .int .i64 y) (a' := ?_) rfl (by rfl) (fun w' _ => by go_simp) ?_ ?_
  rotate_left
  · simp only [Act.put, List.setIfInBounds_toArray, List.set_cons_zero, List.set_cons_succ]
    rfl
  refine wstep (N := some 20) (v := .bool false) (a' := ?_) rfl (by rfl) (fun w' _ => by go_simp; (try simp only [i64_w]); first | exact P0.out | (have h_ := P0.out; omega) | exact cmp_ P0.out | exact cmpd_ P0.out | exact cmpf_ P0.out) ?_ ?_
  rotate_left
  · simp only [Act.put, List.setIfInBounds_toArray, List.set_cons_zero, List.set_cons_succ]
    rfl
  refine wstep (N := some 21) (v := .bool false) (a' := ?_) rfl (by rfl) (fun w' _ => by go_simp) ?_ ?_
  rotate_left
  · simp only [Act.put, List.setIfInBounds_toArray, List.set_cons_zero, List.set_cons_succ]
    rfl
  refine wskip (N := some 22) (a' := ?_) rfl (by rfl) ?_ ?_
  rotate_left
  · simp only [Act.put, List.setIfInBounds_toArray, List.set_cons_zero, List.set_cons_succ]
    rfl
  refine wskip (N := some 23) (a' := ?_) rfl (by rfl) ?_ ?_
  rotate_left
  · simp only [Act.put, List.setIfInBounds_toArray, List.set_cons_zero, List.set_cons_succ]
    rfl
  refine wskip (N := some 24) (a' := ?_) rfl (by rfl) ?_ ?_
  rotate_left
  · simp only [Act.put, List.setIfInBounds_toArray, List.set_cons_zero, List.set_cons_succ]
    rfl
  refine wskip (N := some 25) (a' := ?_) rfl (by rfl) ?_ ?_
  rotate_left
  · simp only [Act.put, List.setIfInBounds_toArray, List.set_cons_zero, List.set_cons_succ]
    rfl
  refine wskip (N := some 26) (a' := ?_) rfl (by rfl) ?_ ?_
  rotate_left
  · simp only [Act.put, List.setIfInBounds_toArray, List.set_cons_zero, List.set_cons_succ]
    rfl
  refine wstep (N := some 27) (v := .bool false) (a' := ?_) rfl (by rfl) (fun w' _ => by go_simp) ?_ ?_
  rotate_left
  · simp only [Act.put, List.setIfInBounds_toArray, List.set_cons_zero, List.set_cons_succ]
    rfl
  refine wnil ?_
  intro w_h6 h6_
  have h6 := Aside0.mk h6_
  clear h6_
  go_upto_region 8 with (fail)
  refine wregion_p (C := Cls w ((w.heap.size, cs, 23) :: [])) (h6.out) ?_
  refine wstep (N := some 28) (v := .int .i64 x) (a' := ?_) rfl (by rfl) (fun w' _ => by go_simp) ?_ ?_
  rotate_left
  · simp only [Act.put, List.setIfInBounds_toArray, List.set_cons_zero, List.set_cons_succ]
    rfl
  refine wstep (N := some 29) (v := .bool false) (a' := ?_) rfl (by rfl) (fun w' _ => by go_simp; (try simp only [i64_w]); first | exact P1.out | (have h_ := P1.out; omega) | exact cmp_ P1.out | exact cmpd_ P1.out | exact cmpf_ P1.out) ?_ ?_
  rotate_left
  · simp only [Act.put, List.setIfInBounds_toArray, List.set_cons_zero, List.set_cons_succ]
    rfl
  refine wstep (N := some 30) (v := .bool false) (a' := ?_) rfl (by rfl) (fun w' _ => by go_simp) ?_ ?_
  rotate_left
  · simp only [Act.put, List.setIfInBounds_toArray, List.set_cons_zero, List.set_cons_succ]
    rfl
  refine wstep (N := some 31) (v := .int .i64 x) (a' := ?_) rfl (by rfl) (fun w' _ => by go_simp) ?_ ?_
  rotate_left
  · simp only [Act.put, List.setIfInBounds_toArray, List.set_cons_zero, List.set_cons_succ]
    rfl
  refine wstep (N := some 32) (v := .int .i64 vd) (a' := ?_) rfl (by rfl) (fun w' _ => by go_simp) ?_ ?_
  rotate_left
  · simp only [Act.put, List.setIfInBounds_toArray, List.set_cons_zero, List.set_cons_succ]
    rfl
  refine wstep (N := some 33) (v := .bool true) (a' := ?_) rfl (by rfl) (fun w' _ => by go_simp; (try simp only [i64_w]); first | exact P2.out | (have h_ := P2.out; omega) | exact cmp_ P2.out | exact cmpd_ P2.out | exact cmpf_ P2.out) ?_ ?_
  rotate_left
  · simp only [Act.put, List.setIfInBounds_toArray, List.set_cons_zero, List.set_cons_succ]
    rfl
  refine wstep (N := some 34) (v := .bool true) (a' := ?_) rfl (by rfl) (fun w' _ => by go_simp) ?_ ?_
  rotate_left
  · simp only [Act.put, List.setIfInBounds_toArray, List.set_cons_zero, List.set_cons_succ]
    rfl
  refine wstep (N := some 35) (v := .bool true) (a' := ?_) rfl (by rfl) (fun w' _ => by go_simp) ?_ ?_
  rotate_left
  · simp only [Act.put, List.setIfInBounds_toArray, List.set_cons_zero, List.set_cons_succ]
    rfl
  refine wskip (N := some 36) (a' := ?_) rfl (by rfl) ?_ ?_
  rotate_left
  · simp only [Act.put, List.setIfInBounds_toArray, List.set_cons_zero, List.set_cons_succ]
    rfl
  refine wskip (N := some 37) (a' := ?_) rfl (by rfl) ?_ ?_
  rotate_left
  · simp only [Act.put, List.setIfInBounds_toArray, List.set_cons_zero, List.set_cons_succ]
    rfl
  refine wskip (N := some 38) (a' := ?_) rfl (by rfl) ?_ ?_
  rotate_left
  · simp only [Act.put, List.setIfInBounds_toArray, List.set_cons_zero, List.set_cons_succ]
    rfl
  refine wskip (N := some 39) (a' := ?_) rfl (by rfl) ?_ ?_
  rotate_left
  · simp only [Act.put, List.setIfInBounds_toArray, List.set_cons_zero, List.set_cons_succ]
    rfl
  refine wskip (N := some 40) (a' := ?_) rfl (by rfl) ?_ ?_
  rotate_left
  · simp only [Act.put, List.setIfInBounds_toArray, List.set_cons_zero, List.set_cons_succ]
    rfl
  refine wstep (N := some 41) (v := .bool true) (a' := ?_) rfl (by rfl) (fun w' _ => by go_simp) ?_ ?_
  rotate_left
  · simp only [Act.put, List.setIfInBounds_toArray, List.set_cons_zero, List.set_cons_succ]
    rfl
  refine wstep (N := some 42) (v := .bool true) (a' := ?_) rfl (by rfl) (fun w' _ => by go_simp) ?_ ?_
  rotate_left
  · simp only [Act.put, List.setIfInBounds_toArray, List.set_cons_zero, List.set_cons_succ]
    rfl
  refine wcall (N := some 43) (a' := ?_) (f := 35) Try.func35 (by kernel_rfl) rfl #[] (by rfl) rfl rfl (by (try simp only [List.map_toArray, List.map_cons, List.map_nil]); first | done | rfl) (qcall_cls (v := .bool true) H35.out) ?_ ?_
  rotate_left
  · simp only [Act.put, List.setIfInBounds_toArray, List.set_cons_zero, List.set_cons_succ]
    rfl
  refine wstep (N := some 44) (v := .bool true) (a' := ?_) rfl (by rfl) (fun w' _ => by go_simp) ?_ ?_
  rotate_left
  · simp only [Act.put, List.setIfInBounds_toArray, List.set_cons_zero, List.set_cons_succ]
    rfl
  refine wstep (N := some 6) (v := .bool true) (a' := ?_) rfl (by rfl) (fun w' _ => by go_simp) ?_ ?_
  rotate_left
  · simp only [Act.put, List.setIfInBounds_toArray, List.set_cons_zero, List.set_cons_succ]
    rfl
  refine wnil ?_
  intro w_h8 h8_
  have h8 := Aside0.mk h8_
  clear h8_
  go_wp2
  go_ret
  exact ⟨rfl, h8.out.below⟩

set_option maxHeartbeats 4000000 in
set_option maxRecDepth 100000 in
theorem yesNM (cs : Array Value) (y : Int) (x : Int) (k a b c d : Int) (vd : Int) (w : World) (HS_cs : Aside0 (cs.size = 5))
    (H36 : Aside0 (Rets Try.prog 36 #[.agg cs] (.bool true)))
    (H30 : Aside0 (Rets Try.prog 30 #[.int .i64 vd, .int .i64 1000000000] (.bool true)))
    (H35 : Aside0 (Rets Try.prog 35 #[] (.bool true)))
    (H39 : Aside0 (Rets Try.prog 39 #[.agg cs, .int .i64 y] (.int .i64 vd)))
    (HA : Aside0 (∀ z, Rets Try.prog 37 #[.agg cs, .int .i64 z] (.int .i64 (C k a b c d (hold z)))))
    (P0 : Aside0 (¬ (C k a b c d (hold 1000000000) ≤ y)))
    (P1 : Aside0 (¬ (x < 0)))
    (P2 : Aside0 (¬ (x ≥ vd)))
    (P3 : Aside0 (C k a b c d (hold x) > y)) :
    Calls Try.prog 20 #[.agg cs, .int .i64 y, .int .i64 x] w fun e w' => e = .returned (.bool true) ∧ Below w.heap.size w w' := by
  have HCl : Aside0 (Cls w ((w.heap.size, cs, 23) :: []) (w.alloc (.cells cs 23 (0, 0)))) := ⟨(Cls.start w).put _ _⟩
  go_enter Try.func20, Try.ntmps20
  go_upto_region 1 with (fail)
  refine wregion_p (C := Cls w ((w.heap.size, cs, 23) :: [])) (HCl.out) ?_
  refine wstep (N := some 8) (v := .agg cs) (a' := ?_) rfl (by rfl) (fun w' h => load_row (h.blk0) rfl rfl Try.underlying23 rfl (by rw [HS_cs.out]; exact info23)) ?_ ?_
  rotate_left
  · simp only [Act.put, List.setIfInBounds_toArray, List.set_cons_zero, List.set_cons_succ]
    rfl
  refine wcall (N := some 9) (a' := ?_) (f := 36) Try.func36 (by kernel_rfl) rfl #[.agg cs] (by rfl) rfl rfl (by (try simp only [List.map_toArray, List.map_cons, List.map_nil]); first | done | rfl) (qcall_cls (v := .bool true) H36.out) ?_ ?_
  rotate_left
  · simp only [Act.put, List.setIfInBounds_toArray, List.set_cons_zero, List.set_cons_succ]
    rfl
  refine wstep (N := some 10) (v := .bool false) (a' := ?_) rfl (by rfl) (fun w' _ => by go_simp) ?_ ?_
  rotate_left
  · simp only [Act.put, List.setIfInBounds_toArray, List.set_cons_zero, List.set_cons_succ]
    rfl
  refine wnil ?_
  intro w_h1 h1_
  have h1 := Aside0.mk h1_
  clear h1_
  go_upto_region 3 with (fail)
  refine wregion_p (C := Cls w ((w.heap.size, cs, 23) :: [])) (h1.out) ?_
  refine wstep (N := some 11) (v := .agg cs) (a' := ?_) rfl (by rfl) (fun w' h => load_row (h.blk0) rfl rfl Try.underlying23 rfl (by rw [HS_cs.out]; exact info23)) ?_ ?_
  rotate_left
  · simp only [Act.put, List.setIfInBounds_toArray, List.set_cons_zero, List.set_cons_succ]
    rfl
  refine wstep (N := some 12) (v := .int .i64 y) (a' := ?_) rfl (by rfl) (fun w' _ => by go_simp) ?_ ?_
  rotate_left
  · simp only [Act.put, List.setIfInBounds_toArray, List.set_cons_zero, List.set_cons_succ]
    rfl
  refine wcall (N := some 13) (a' := ?_) (f := 39) Try.func39 (by kernel_rfl) rfl #[.agg cs, .int .i64 y] (by rfl) rfl rfl (by (try simp only [List.map_toArray, List.map_cons, List.map_nil]); first | done | rfl) (qcall_cls (v := .int .i64 vd) H39.out) ?_ ?_
  rotate_left
  · simp only [Act.put, List.setIfInBounds_toArray, List.set_cons_zero, List.set_cons_succ]
    rfl
  refine wstep (N := some 7) (v := .int .i64 vd) (a' := ?_) rfl (by rfl) (fun w' _ => by go_simp) ?_ ?_
  rotate_left
  · simp only [Act.put, List.setIfInBounds_toArray, List.set_cons_zero, List.set_cons_succ]
    rfl
  refine wnil ?_
  intro w_h3 h3_
  have h3 := Aside0.mk h3_
  clear h3_
  go_upto_region 4 with (fail)
  refine wregion_p (C := Cls w ((w.heap.size, cs, 23) :: [])) (h3.out) ?_
  refine wstep (N := some 14) (v := .int .i64 vd) (a' := ?_) rfl (by rfl) (fun w' _ => by go_simp) ?_ ?_
  rotate_left
  · simp only [Act.put, List.setIfInBounds_toArray, List.set_cons_zero, List.set_cons_succ]
    rfl
  refine wcall (N := some 15) (a' := ?_) (f := 30) Try.func30 (by kernel_rfl) rfl #[.int .i64 vd, .int .i64 1000000000] (by rfl) rfl rfl (by (try simp only [List.map_toArray, List.map_cons, List.map_nil]); first | done | rfl) (qcall_cls (v := .bool true) H30.out) ?_ ?_
  rotate_left
  · simp only [Act.put, List.setIfInBounds_toArray, List.set_cons_zero, List.set_cons_succ]
    rfl
  refine wstep (N := some 16) (v := .bool false) (a' := ?_) rfl (by rfl) (fun w' _ => by go_simp) ?_ ?_
  rotate_left
  · simp only [Act.put, List.setIfInBounds_toArray, List.set_cons_zero, List.set_cons_succ]
    rfl
  refine wnil ?_
  intro w_h4 h4_
  have h4 := Aside0.mk h4_
  clear h4_
  go_upto_region 6 with (fail)
  refine wregion_p (C := Cls w ((w.heap.size, cs, 23) :: [])) (h4.out) ?_
  refine wstep (N := some 17) (v := .agg cs) (a' := ?_) rfl (by rfl) (fun w' h => load_row (h.blk0) rfl rfl Try.underlying23 rfl (by rw [HS_cs.out]; exact info23)) ?_ ?_
  rotate_left
  · simp only [Act.put, List.setIfInBounds_toArray, List.set_cons_zero, List.set_cons_succ]
    rfl
  refine wcall (N := some 18) (a' := ?_) (f := 37) Try.func37 (by kernel_rfl) rfl #[.agg cs, .int .i64 1000000000] (by rfl) rfl rfl (by (try simp only [List.map_toArray, List.map_cons, List.map_nil]); first | done | rfl) (qcall_cls (v := .int .i64 (C k a b c d (hold 1000000000))) (HA.out 1000000000)) ?_ ?_
  rotate_left
  · simp only [Act.put, List.setIfInBounds_toArray, List.set_cons_zero, List.set_cons_succ]
    rfl
  refine wstep (N := some 19) (v := .int .i64 y) (a' := ?_) rfl (by rfl) (fun w' _ => by go_simp) ?_ ?_
  rotate_left
  · simp only [Act.put, List.setIfInBounds_toArray, List.set_cons_zero, List.set_cons_succ]
    rfl
  refine wstep (N := some 20) (v := .bool false) (a' := ?_) rfl (by rfl) (fun w' _ => by go_simp; (try simp only [i64_w]); first | exact P0.out | (have h_ := P0.out; omega) | exact cmp_ P0.out | exact cmpd_ P0.out | exact cmpf_ P0.out) ?_ ?_
  rotate_left
  · simp only [Act.put, List.setIfInBounds_toArray, List.set_cons_zero, List.set_cons_succ]
    rfl
  refine wstep (N := some 21) (v := .bool false) (a' := ?_) rfl (by rfl) (fun w' _ => by go_simp) ?_ ?_
  rotate_left
  · simp only [Act.put, List.setIfInBounds_toArray, List.set_cons_zero, List.set_cons_succ]
    rfl
  refine wskip (N := some 22) (a' := ?_) rfl (by rfl) ?_ ?_
  rotate_left
  · simp only [Act.put, List.setIfInBounds_toArray, List.set_cons_zero, List.set_cons_succ]
    rfl
  refine wskip (N := some 23) (a' := ?_) rfl (by rfl) ?_ ?_
  rotate_left
  · simp only [Act.put, List.setIfInBounds_toArray, List.set_cons_zero, List.set_cons_succ]
    rfl
  refine wskip (N := some 24) (a' := ?_) rfl (by rfl) ?_ ?_
  rotate_left
  · simp only [Act.put, List.setIfInBounds_toArray, List.set_cons_zero, List.set_cons_succ]
    rfl
  refine wskip (N := some 25) (a' := ?_) rfl (by rfl) ?_ ?_
  rotate_left
  · simp only [Act.put, List.setIfInBounds_toArray, List.set_cons_zero, List.set_cons_succ]
    rfl
  refine wskip (N := some 26) (a' := ?_) rfl (by rfl) ?_ ?_
  rotate_left
  · simp only [Act.put, List.setIfInBounds_toArray, List.set_cons_zero, List.set_cons_succ]
    rfl
  refine wstep (N := some 27) (v := .bool false) (a' := ?_) rfl (by rfl) (fun w' _ => by go_simp) ?_ ?_
  rotate_left
  · simp only [Act.put, List.setIfInBounds_toArray, List.set_cons_zero, List.set_cons_succ]
    rfl
  refine wnil ?_
  intro w_h6 h6_
  have h6 := Aside0.mk h6_
  clear h6_
  go_upto_region 8 with (fail)
  refine wregion_p (C := Cls w ((w.heap.size, cs, 23) :: [])) (h6.out) ?_
  refine wstep (N := some 28) (v := .int .i64 x) (a' := ?_) rfl (by rfl) (fun w' _ => by go_simp) ?_ ?_
  rotate_left
  · simp only [Act.put, List.setIfInBounds_toArray, List.set_cons_zero, List.set_cons_succ]
    rfl
  refine wstep (N := some 29) (v := .bool false) (a' := ?_) rfl (by rfl) (fun w' _ => by go_simp; (try simp only [i64_w]); first | exact P1.out | (have h_ := P1.out; omega) | exact cmp_ P1.out | exact cmpd_ P1.out | exact cmpf_ P1.out) ?_ ?_
  rotate_left
  · simp only [Act.put, List.setIfInBounds_toArray, List.set_cons_zero, List.set_cons_succ]
    rfl
  refine wstep (N := some 30) (v := .bool false) (a' := ?_) rfl (by rfl) (fun w' _ => by go_simp) ?_ ?_
  rotate_left
  · simp only [Act.put, List.setIfInBounds_toArray, List.set_cons_zero, List.set_cons_succ]
    rfl
  refine wstep (N := some 31) (v := .int .i64 x) (a' := ?_) rfl (by rfl) (fun w' _ => by go_simp) ?_ ?_
  rotate_left
  · simp only [Act.put, List.setIfInBounds_toArray, List.set_cons_zero, List.set_cons_succ]
    rfl
  refine wstep (N := some 32) (v := .int .i64 vd) (a' := ?_) rfl (by rfl) (fun w' _ => by go_simp) ?_ ?_
  rotate_left
  · simp only [Act.put, List.setIfInBounds_toArray, List.set_cons_zero, List.set_cons_succ]
    rfl
  refine wstep (N := some 33) (v := .bool false) (a' := ?_) rfl (by rfl) (fun w' _ => by go_simp; (try simp only [i64_w]); first | exact P2.out | (have h_ := P2.out; omega) | exact cmp_ P2.out | exact cmpd_ P2.out | exact cmpf_ P2.out) ?_ ?_
  rotate_left
  · simp only [Act.put, List.setIfInBounds_toArray, List.set_cons_zero, List.set_cons_succ]
    rfl
  refine wstep (N := some 34) (v := .bool false) (a' := ?_) rfl (by rfl) (fun w' _ => by go_simp) ?_ ?_
  rotate_left
  · simp only [Act.put, List.setIfInBounds_toArray, List.set_cons_zero, List.set_cons_succ]
    rfl
  refine wstep (N := some 35) (v := .bool false) (a' := ?_) rfl (by rfl) (fun w' _ => by go_simp) ?_ ?_
  rotate_left
  · simp only [Act.put, List.setIfInBounds_toArray, List.set_cons_zero, List.set_cons_succ]
    rfl
  refine wstep (N := some 36) (v := .agg cs) (a' := ?_) rfl (by rfl) (fun w' h => load_row (h.blk0) rfl rfl Try.underlying23 rfl (by rw [HS_cs.out]; exact info23)) ?_ ?_
  rotate_left
  · simp only [Act.put, List.setIfInBounds_toArray, List.set_cons_zero, List.set_cons_succ]
    rfl
  refine wstep (N := some 37) (v := .int .i64 x) (a' := ?_) rfl (by rfl) (fun w' _ => by go_simp) ?_ ?_
  rotate_left
  · simp only [Act.put, List.setIfInBounds_toArray, List.set_cons_zero, List.set_cons_succ]
    rfl
  refine wcall (N := some 38) (a' := ?_) (f := 37) Try.func37 (by kernel_rfl) rfl #[.agg cs, .int .i64 x] (by rfl) rfl rfl (by (try simp only [List.map_toArray, List.map_cons, List.map_nil]); first | done | rfl) (qcall_cls (v := .int .i64 (C k a b c d (hold x))) (HA.out x)) ?_ ?_
  rotate_left
  · simp only [Act.put, List.setIfInBounds_toArray, List.set_cons_zero, List.set_cons_succ]
    rfl
  refine wstep (N := some 39) (v := .int .i64 y) (a' := ?_) rfl (by rfl) (fun w' _ => by go_simp) ?_ ?_
  rotate_left
  · simp only [Act.put, List.setIfInBounds_toArray, List.set_cons_zero, List.set_cons_succ]
    rfl
  refine wstep (N := some 40) (v := .bool true) (a' := ?_) rfl (by rfl) (fun w' _ => by go_simp; (try simp only [i64_w]); first | exact P3.out | (have h_ := P3.out; omega) | exact cmp_ P3.out | exact cmpd_ P3.out | exact cmpf_ P3.out) ?_ ?_
  rotate_left
  · simp only [Act.put, List.setIfInBounds_toArray, List.set_cons_zero, List.set_cons_succ]
    rfl
  refine wstep (N := some 41) (v := .bool true) (a' := ?_) rfl (by rfl) (fun w' _ => by go_simp) ?_ ?_
  rotate_left
  · simp only [Act.put, List.setIfInBounds_toArray, List.set_cons_zero, List.set_cons_succ]
    rfl
  refine wstep (N := some 42) (v := .bool true) (a' := ?_) rfl (by rfl) (fun w' _ => by go_simp) ?_ ?_
  rotate_left
  · simp only [Act.put, List.setIfInBounds_toArray, List.set_cons_zero, List.set_cons_succ]
    rfl
  refine wcall (N := some 43) (a' := ?_) (f := 35) Try.func35 (by kernel_rfl) rfl #[] (by rfl) rfl rfl (by (try simp only [List.map_toArray, List.map_cons, List.map_nil]); first | done | rfl) (qcall_cls (v := .bool true) H35.out) ?_ ?_
  rotate_left
  · simp only [Act.put, List.setIfInBounds_toArray, List.set_cons_zero, List.set_cons_succ]
    rfl
  refine wstep (N := some 44) (v := .bool true) (a' := ?_) rfl (by rfl) (fun w' _ => by go_simp) ?_ ?_
  rotate_left
  · simp only [Act.put, List.setIfInBounds_toArray, List.set_cons_zero, List.set_cons_succ]
    rfl
  refine wstep (N := some 6) (v := .bool true) (a' := ?_) rfl (by rfl) (fun w' _ => by go_simp) ?_ ?_
  rotate_left
  · simp only [Act.put, List.setIfInBounds_toArray, List.set_cons_zero, List.set_cons_succ]
    rfl
  refine wnil ?_
  intro w_h8 h8_
  have h8 := Aside0.mk h8_
  clear h8_
  go_wp2
  go_ret
  exact ⟨rfl, h8.out.below⟩


theorem erIs : PPerDelays.althingref4_Is.f = rIs := rfl
theorem eAt : PPerDelays.per_At.f = pAt := rfl
theorem epIs (n : Nat) : PPerDelays.per_Is.f (n + 1) = pIs (n + 1) := rfl
theorem known_ok (k : Nat) : PPerDelays.althinglaw4_known.f (k + 1) = some true := by kernel_rfl
theorem ref_is (k a b c d : Int) {r : Bool} (h : decide (okCurve k a b c d) = r) : Rets Try.prog 36 #[.agg #[.int .i64 k, .int .i64 a, .int .i64 b, .int .i64 c, .int .i64 d]] (.bool r) := fun w => by
  refine (PPerDelays.althingref4_Is.calls k a b c d r w ?_).mono fun _ _ h => h
  rw [erIs, rIs_eq, h]
theorem per_is (k a b c d : Int) {r : Bool} (h : decide (okCurve k a b c d) = r) : Rets Try.prog 38 #[.agg #[.int .i64 k, .int .i64 a, .int .i64 b, .int .i64 c, .int .i64 d]] (.bool r) := fun w => by
  refine (PPerDelays.per_Is.calls 1 k a b c d r w ?_).mono fun _ _ h => h
  rw [epIs, pIs_eq, h]
theorem known_ : Rets Try.prog 35 #[] (.bool true) := fun w => (PPerDelays.althinglaw4_known.calls 1 true w (known_ok 0)).mono fun _ _ h => h
theorem per_at (k a b c d x : Int) (ok : okCurve k a b c d) : Rets Try.prog 37 #[.agg #[.int .i64 k, .int .i64 a, .int .i64 b, .int .i64 c, .int .i64 d], .int .i64 x] (.int .i64 (C k a b c d (hold x))) := fun w =>
  (PPerDelays.per_At.calls k a b c d x _ w (by rw [eAt]; exact at_eq x ok)).mono fun _ _ h => h
theorem delay_of (k a b c d y : Int) (ok : okCurve k a b c d) : Rets Try.prog 39 #[.agg #[.int .i64 k, .int .i64 a, .int .i64 b, .int .i64 c, .int .i64 d], .int .i64 y] (.int .i64 (bsN (Delays.low k a b c d y) 31 0 1000000000)) :=
  Delays.delay_ _ k a b c d y ⟨rfl⟩ ⟨fun x => per_at k a b c d x ok⟩

theorem eIn : PPerDelays.althinglaw4_in.f = pIn := rfl
theorem in_ (n m : Int) {r : Bool} (h : decide (0 ≤ n ∧ n ≤ m) = r) : Rets Try.prog 30 #[.int .i64 n, .int .i64 m] (.bool r) := fun w =>
  (PPerDelays.althinglaw4_in.calls n m r w (by rw [eIn, pIn_eq, h])).mono fun _ _ ⟨he, q⟩ => ⟨he, by obtain ⟨_, rfl⟩ := q; exact pw_below_drewN (Below.refl _ _) _⟩

theorem walk (k a b c d y x : Int) (w : World) (_ : (Lit.int .i64 k).wf = true ∧ (Lit.int .i64 a).wf = true ∧ (Lit.int .i64 b).wf = true ∧ (Lit.int .i64 c).wf = true ∧ (Lit.int .i64 d).wf = true) (_ : (Lit.int .i64 y).wf = true) (_ : (Lit.int .i64 x).wf = true) :
    Calls Try.prog 20 #[.agg #[.int .i64 k, .int .i64 a, .int .i64 b, .int .i64 c, .int .i64 d], .int .i64 y, .int .i64 x] w fun e w' => e = .returned (.bool true) ∧ Below w.heap.size w w' := by
  by_cases ok : okCurve k a b c d
  · have mono : ∀ u v, u ≤ v → Delays.low k a b c d y u = true → Delays.low k a b c d y v = true := fun u v huv h => by
      have h1 := of_decide_eq_true h
      have h2 := C_anti ok (hold_in u).1 (show hold u ≤ hold v by unfold hold; omega)
      exact decide_eq_true (Int.le_trans h2 h1)
    obtain ⟨r0, r1, r2, r3⟩ := bsN_spec (Delays.low k a b c d y) mono 31 0 1000000000 (by omega) (by decide)
    have hR : ∃ R, bsN (Delays.low k a b c d y) 31 0 1000000000 = R := ⟨_, rfl⟩
    have hdl := delay_of k a b c d y ok
    obtain ⟨R, hR⟩ := hR
    rw [hR] at r0 r1 r2 r3 hdl
    have hx : ¬ x < 0 → ¬ x ≥ R → C k a b c d (hold x) > y := fun h1 h2 => by
      have := of_decide_eq_false (r2 x (by omega) (by omega))
      omega
    have hd : C k a b c d (hold 1000000000) ≤ y → ¬ C k a b c d (hold R) > y := fun h => by
      by_cases hlt : R < 1000000000
      · have := of_decide_eq_true (r3 hlt); omega
      · rw [show R = 1000000000 by omega]; omega
    by_cases e1 : C k a b c d (hold 1000000000) ≤ y
    · by_cases x0 : x < 0
      · exact yesEL (cs := _) (x := x) (y := y) (w := w) (k := k) (a := a) (b := b) (c := c) (d := d) (vd := R) (HS_cs := ⟨rfl⟩) (H36 := ⟨ref_is k a b c d (decide_eq_true ok)⟩) (H30 := ⟨in_ R 1000000000 (decide_eq_true ⟨r0, r1⟩)⟩) (H35 := ⟨known_⟩) (H39 := ⟨hdl⟩) (HA := ⟨fun z => per_at k a b c d z ok⟩) (P0 := ⟨e1⟩) (P1 := ⟨hd e1⟩) (P2 := ⟨x0⟩)
      by_cases x1 : x ≥ R
      · exact yesEG (cs := _) (x := x) (y := y) (w := w) (k := k) (a := a) (b := b) (c := c) (d := d) (vd := R) (HS_cs := ⟨rfl⟩) (H36 := ⟨ref_is k a b c d (decide_eq_true ok)⟩) (H30 := ⟨in_ R 1000000000 (decide_eq_true ⟨r0, r1⟩)⟩) (H35 := ⟨known_⟩) (H39 := ⟨hdl⟩) (HA := ⟨fun z => per_at k a b c d z ok⟩) (P0 := ⟨e1⟩) (P1 := ⟨hd e1⟩) (P2 := ⟨x0⟩) (P3 := ⟨x1⟩)
      exact yesEM (cs := _) (x := x) (y := y) (w := w) (k := k) (a := a) (b := b) (c := c) (d := d) (vd := R) (HS_cs := ⟨rfl⟩) (H36 := ⟨ref_is k a b c d (decide_eq_true ok)⟩) (H30 := ⟨in_ R 1000000000 (decide_eq_true ⟨r0, r1⟩)⟩) (H35 := ⟨known_⟩) (H39 := ⟨hdl⟩) (HA := ⟨fun z => per_at k a b c d z ok⟩) (P0 := ⟨e1⟩) (P1 := ⟨hd e1⟩) (P2 := ⟨x0⟩) (P3 := ⟨x1⟩) (P4 := ⟨hx x0 x1⟩)
    · by_cases x0 : x < 0
      · exact yesNL (cs := _) (x := x) (y := y) (w := w) (k := k) (a := a) (b := b) (c := c) (d := d) (vd := R) (HS_cs := ⟨rfl⟩) (H36 := ⟨ref_is k a b c d (decide_eq_true ok)⟩) (H30 := ⟨in_ R 1000000000 (decide_eq_true ⟨r0, r1⟩)⟩) (H35 := ⟨known_⟩) (H39 := ⟨hdl⟩) (HA := ⟨fun z => per_at k a b c d z ok⟩) (P0 := ⟨e1⟩) (P1 := ⟨x0⟩)
      by_cases x1 : x ≥ R
      · exact yesNG (cs := _) (x := x) (y := y) (w := w) (k := k) (a := a) (b := b) (c := c) (d := d) (vd := R) (HS_cs := ⟨rfl⟩) (H36 := ⟨ref_is k a b c d (decide_eq_true ok)⟩) (H30 := ⟨in_ R 1000000000 (decide_eq_true ⟨r0, r1⟩)⟩) (H35 := ⟨known_⟩) (H39 := ⟨hdl⟩) (HA := ⟨fun z => per_at k a b c d z ok⟩) (P0 := ⟨e1⟩) (P1 := ⟨x0⟩) (P2 := ⟨x1⟩)
      exact yesNM (cs := _) (x := x) (y := y) (w := w) (k := k) (a := a) (b := b) (c := c) (d := d) (vd := R) (HS_cs := ⟨rfl⟩) (H36 := ⟨ref_is k a b c d (decide_eq_true ok)⟩) (H30 := ⟨in_ R 1000000000 (decide_eq_true ⟨r0, r1⟩)⟩) (H35 := ⟨known_⟩) (H39 := ⟨hdl⟩) (HA := ⟨fun z => per_at k a b c d z ok⟩) (P0 := ⟨e1⟩) (P1 := ⟨x0⟩) (P2 := ⟨x1⟩) (P3 := ⟨hx x0 x1⟩)
  · exact no (cs := _) (x := x) (y := y) (w := w) (k := k) (a := a) (b := b) (c := c) (d := d) (vd := 0) (HS_cs := ⟨rfl⟩) (H36 := ⟨ref_is k a b c d (decide_eq_false ok)⟩)

end Go.Proofs.Ytpnjddolboahoaa.WalkPerDelays
