/- Behind the end of its decision a track passes just as at its end: the law answers true at every track, tally and length. -/
import Derived.Test.YtpnjddolboahoaaTrackBase
namespace Go.Proofs.Ytpnjddolboahoaa.WalkTrackStill
open Go.RowKit Go.Proofs.YtpnjddolboahoaaW.PrintWords Go.Proofs.YtpnjddolboahoaaW.PrintLast Go.Proofs.YtpnjddolboahoaaW.PrintMore Go.Proofs.Ytpnjddolboahoaa.Math Go.Proofs.Ytpnjddolboahoaa.Q
attribute [local go_sem] max2_int min2_int max_two min_two
set_option linter.unusedVariables false
set_option linter.unusedSimpArgs false

theorem info23 : (Try.prog.info? 23).map (·.size) = some 5 := by kernel_rfl
theorem info25 : (Try.prog.info? 25).map (·.size) = some 18 := by kernel_rfl
theorem info29 : (Try.prog.info? 29).map (·.size) = some 3 := by kernel_rfl
theorem cmp_ {a b : Int} {w : World} (h : a = b) : Result.ok (Next.value (.bool (a == b))) w = Result.ok (Next.value (.bool true)) w := by rw [beq_iff_eq.mpr h]
theorem cmpd_ {p : Prop} [Decidable p] {w : World} (h : p) : Result.ok (Next.value (.bool (decide p))) w = Result.ok (Next.value (.bool true)) w := by rw [decide_eq_true h]
theorem cmpf_ {p : Prop} [Decidable p] {w : World} (h : ¬ p) : Result.ok (Next.value (.bool (decide p))) w = Result.ok (Next.value (.bool false)) w := by rw [decide_eq_false h]

set_option maxHeartbeats 4000000 in
set_option maxRecDepth 100000 in
theorem early0 (cs : Array Value) (ts : Array Value) (issued : Int) (more : Int) (cs0 cs1 cs2 cs3 cs4 cs5 cs6 cs7 cs8 cs9 cs10 cs11 cs12 cs13 cs14 cs15 cs16 cs17 ts0 ts1 ts2 : Int)  (w : World) (HS_cs : Aside0 (cs.size = 18)) (HS_ts : Aside0 (ts.size = 3))
    (H22 : Aside0 (Rets Try.prog 22 #[.agg cs] (.bool false))) :
    Calls Try.prog 8 #[.agg cs, .agg ts, .int .i64 issued, .int .i64 more] w fun e w' => e = .returned (.bool true) ∧ Below w.heap.size w w' := by
  have HCl : Aside0 (Cls w ((w.heap.size + 1, ts, 29) :: (w.heap.size, cs, 25) :: []) ((w.alloc (.cells cs 25 (0, 0))).alloc (.cells ts 29 (0, 0)))) := ⟨Cls.put2 w _ _ _ _⟩
  go_enter Try.func8, Try.ntmps8
  go_upto_region 1 with (fail)
  refine region_p (C := Cls w ((w.heap.size + 1, ts, 29) :: (w.heap.size, cs, 25) :: [])) (HCl.out) ?_
  refine qstep (N := some 9) (v := .agg cs) (a' := ?_) rfl (by rfl) (fun w' h => load_row (h.blk1) rfl rfl Try.underlying25 rfl (by rw [HS_cs.out]; exact info25)) ?_ ?_
  rotate_left
  · simp only [Act.put, List.setIfInBounds_toArray, List.set_cons_zero, List.set_cons_succ]
    rfl
  refine qcall (N := some 10) (a' := ?_) (f := 22) Try.func22 (by kernel_rfl) rfl #[.agg cs] (by rfl) rfl rfl (by (try simp only [List.map_toArray, List.map_cons, List.map_nil]); first | done | rfl) (qcall_cls (v := .bool false) H22.out) ?_ ?_
  rotate_left
  · simp only [Act.put, List.setIfInBounds_toArray, List.set_cons_zero, List.set_cons_succ]
    rfl
  refine qstep (N := some 11) (v := .bool true) (a' := ?_) rfl (by rfl) (fun w' _ => by go_simp) ?_ ?_
  rotate_left
  · simp only [Act.put, List.setIfInBounds_toArray, List.set_cons_zero, List.set_cons_succ]
    rfl
  refine qstep (N := some 12) (v := .bool true) (a' := ?_) rfl (by rfl) (fun w' _ => by go_simp) ?_ ?_
  rotate_left
  · simp only [Act.put, List.setIfInBounds_toArray, List.set_cons_zero, List.set_cons_succ]
    rfl
  refine qskip (N := some 13) (a' := ?_) rfl (by rfl) ?_ ?_
  rotate_left
  · simp only [Act.put, List.setIfInBounds_toArray, List.set_cons_zero, List.set_cons_succ]
    rfl
  refine qskip (N := some 14) (a' := ?_) rfl (by rfl) ?_ ?_
  rotate_left
  · simp only [Act.put, List.setIfInBounds_toArray, List.set_cons_zero, List.set_cons_succ]
    rfl
  refine qskip (N := some 15) (a' := ?_) rfl (by rfl) ?_ ?_
  rotate_left
  · simp only [Act.put, List.setIfInBounds_toArray, List.set_cons_zero, List.set_cons_succ]
    rfl
  refine qskip (N := some 16) (a' := ?_) rfl (by rfl) ?_ ?_
  rotate_left
  · simp only [Act.put, List.setIfInBounds_toArray, List.set_cons_zero, List.set_cons_succ]
    rfl
  refine qstep (N := some 17) (v := .bool true) (a' := ?_) rfl (by rfl) (fun w' _ => by go_simp) ?_ ?_
  rotate_left
  · simp only [Act.put, List.setIfInBounds_toArray, List.set_cons_zero, List.set_cons_succ]
    rfl
  refine qstep (N := some 18) (v := .bool true) (a' := ?_) rfl (by rfl) (fun w' _ => by go_simp) ?_ ?_
  rotate_left
  · simp only [Act.put, List.setIfInBounds_toArray, List.set_cons_zero, List.set_cons_succ]
    rfl
  refine qskip (N := some 19) (a' := ?_) rfl (by rfl) ?_ ?_
  rotate_left
  · simp only [Act.put, List.setIfInBounds_toArray, List.set_cons_zero, List.set_cons_succ]
    rfl
  refine qskip (N := some 20) (a' := ?_) rfl (by rfl) ?_ ?_
  rotate_left
  · simp only [Act.put, List.setIfInBounds_toArray, List.set_cons_zero, List.set_cons_succ]
    rfl
  refine qstep (N := some 21) (v := .bool true) (a' := ?_) rfl (by rfl) (fun w' _ => by go_simp) ?_ ?_
  rotate_left
  · simp only [Act.put, List.setIfInBounds_toArray, List.set_cons_zero, List.set_cons_succ]
    rfl
  refine qstep (N := some 22) (v := .bool true) (a' := ?_) rfl (by rfl) (fun w' _ => by go_simp) ?_ ?_
  rotate_left
  · simp only [Act.put, List.setIfInBounds_toArray, List.set_cons_zero, List.set_cons_succ]
    rfl
  refine qskip (N := some 23) (a' := ?_) rfl (by rfl) ?_ ?_
  rotate_left
  · simp only [Act.put, List.setIfInBounds_toArray, List.set_cons_zero, List.set_cons_succ]
    rfl
  refine qskip (N := some 24) (a' := ?_) rfl (by rfl) ?_ ?_
  rotate_left
  · simp only [Act.put, List.setIfInBounds_toArray, List.set_cons_zero, List.set_cons_succ]
    rfl
  refine qstep (N := some 25) (v := .bool true) (a' := ?_) rfl (by rfl) (fun w' _ => by go_simp) ?_ ?_
  rotate_left
  · simp only [Act.put, List.setIfInBounds_toArray, List.set_cons_zero, List.set_cons_succ]
    rfl
  refine wpQuiet_nil ?_
  intro w_ h1_
  have h1 := Aside0.mk h1_
  clear h1_
  go_wp2
  go_ret
  exact ⟨rfl, h1.out.below⟩

set_option maxHeartbeats 4000000 in
set_option maxRecDepth 100000 in
theorem early1 (cs : Array Value) (ts : Array Value) (issued : Int) (more : Int) (cs0 cs1 cs2 cs3 cs4 cs5 cs6 cs7 cs8 cs9 cs10 cs11 cs12 cs13 cs14 cs15 cs16 cs17 ts0 ts1 ts2 : Int)  (w : World) (HS_cs : Aside0 (cs.size = 18)) (HS_ts : Aside0 (ts.size = 3))
    (H22 : Aside0 (Rets Try.prog 22 #[.agg cs] (.bool true)))
    (H24 : Aside0 (Rets Try.prog 24 #[.agg ts, .int .i64 issued] (.bool false))) :
    Calls Try.prog 8 #[.agg cs, .agg ts, .int .i64 issued, .int .i64 more] w fun e w' => e = .returned (.bool true) ∧ Below w.heap.size w w' := by
  have HCl : Aside0 (Cls w ((w.heap.size + 1, ts, 29) :: (w.heap.size, cs, 25) :: []) ((w.alloc (.cells cs 25 (0, 0))).alloc (.cells ts 29 (0, 0)))) := ⟨Cls.put2 w _ _ _ _⟩
  go_enter Try.func8, Try.ntmps8
  go_upto_region 1 with (fail)
  refine region_p (C := Cls w ((w.heap.size + 1, ts, 29) :: (w.heap.size, cs, 25) :: [])) (HCl.out) ?_
  refine qstep (N := some 9) (v := .agg cs) (a' := ?_) rfl (by rfl) (fun w' h => load_row (h.blk1) rfl rfl Try.underlying25 rfl (by rw [HS_cs.out]; exact info25)) ?_ ?_
  rotate_left
  · simp only [Act.put, List.setIfInBounds_toArray, List.set_cons_zero, List.set_cons_succ]
    rfl
  refine qcall (N := some 10) (a' := ?_) (f := 22) Try.func22 (by kernel_rfl) rfl #[.agg cs] (by rfl) rfl rfl (by (try simp only [List.map_toArray, List.map_cons, List.map_nil]); first | done | rfl) (qcall_cls (v := .bool true) H22.out) ?_ ?_
  rotate_left
  · simp only [Act.put, List.setIfInBounds_toArray, List.set_cons_zero, List.set_cons_succ]
    rfl
  refine qstep (N := some 11) (v := .bool false) (a' := ?_) rfl (by rfl) (fun w' _ => by go_simp) ?_ ?_
  rotate_left
  · simp only [Act.put, List.setIfInBounds_toArray, List.set_cons_zero, List.set_cons_succ]
    rfl
  refine qstep (N := some 12) (v := .bool false) (a' := ?_) rfl (by rfl) (fun w' _ => by go_simp) ?_ ?_
  rotate_left
  · simp only [Act.put, List.setIfInBounds_toArray, List.set_cons_zero, List.set_cons_succ]
    rfl
  refine qstep (N := some 13) (v := .agg ts) (a' := ?_) rfl (by rfl) (fun w' h => load_row (h.blk0) rfl rfl Try.underlying29 rfl (by rw [HS_ts.out]; exact info29)) ?_ ?_
  rotate_left
  · simp only [Act.put, List.setIfInBounds_toArray, List.set_cons_zero, List.set_cons_succ]
    rfl
  refine qstep (N := some 14) (v := .int .i64 issued) (a' := ?_) rfl (by rfl) (fun w' _ => by go_simp) ?_ ?_
  rotate_left
  · simp only [Act.put, List.setIfInBounds_toArray, List.set_cons_zero, List.set_cons_succ]
    rfl
  refine qcall (N := some 15) (a' := ?_) (f := 24) Try.func24 (by kernel_rfl) rfl #[.agg ts, .int .i64 issued] (by rfl) rfl rfl (by (try simp only [List.map_toArray, List.map_cons, List.map_nil]); first | done | rfl) (qcall_cls (v := .bool false) H24.out) ?_ ?_
  rotate_left
  · simp only [Act.put, List.setIfInBounds_toArray, List.set_cons_zero, List.set_cons_succ]
    rfl
  refine qstep (N := some 16) (v := .bool true) (a' := ?_) rfl (by rfl) (fun w' _ => by go_simp) ?_ ?_
  rotate_left
  · simp only [Act.put, List.setIfInBounds_toArray, List.set_cons_zero, List.set_cons_succ]
    rfl
  refine qstep (N := some 17) (v := .bool true) (a' := ?_) rfl (by rfl) (fun w' _ => by go_simp) ?_ ?_
  rotate_left
  · simp only [Act.put, List.setIfInBounds_toArray, List.set_cons_zero, List.set_cons_succ]
    rfl
  refine qstep (N := some 18) (v := .bool true) (a' := ?_) rfl (by rfl) (fun w' _ => by go_simp) ?_ ?_
  rotate_left
  · simp only [Act.put, List.setIfInBounds_toArray, List.set_cons_zero, List.set_cons_succ]
    rfl
  refine qskip (N := some 19) (a' := ?_) rfl (by rfl) ?_ ?_
  rotate_left
  · simp only [Act.put, List.setIfInBounds_toArray, List.set_cons_zero, List.set_cons_succ]
    rfl
  refine qskip (N := some 20) (a' := ?_) rfl (by rfl) ?_ ?_
  rotate_left
  · simp only [Act.put, List.setIfInBounds_toArray, List.set_cons_zero, List.set_cons_succ]
    rfl
  refine qstep (N := some 21) (v := .bool true) (a' := ?_) rfl (by rfl) (fun w' _ => by go_simp) ?_ ?_
  rotate_left
  · simp only [Act.put, List.setIfInBounds_toArray, List.set_cons_zero, List.set_cons_succ]
    rfl
  refine qstep (N := some 22) (v := .bool true) (a' := ?_) rfl (by rfl) (fun w' _ => by go_simp) ?_ ?_
  rotate_left
  · simp only [Act.put, List.setIfInBounds_toArray, List.set_cons_zero, List.set_cons_succ]
    rfl
  refine qskip (N := some 23) (a' := ?_) rfl (by rfl) ?_ ?_
  rotate_left
  · simp only [Act.put, List.setIfInBounds_toArray, List.set_cons_zero, List.set_cons_succ]
    rfl
  refine qskip (N := some 24) (a' := ?_) rfl (by rfl) ?_ ?_
  rotate_left
  · simp only [Act.put, List.setIfInBounds_toArray, List.set_cons_zero, List.set_cons_succ]
    rfl
  refine qstep (N := some 25) (v := .bool true) (a' := ?_) rfl (by rfl) (fun w' _ => by go_simp) ?_ ?_
  rotate_left
  · simp only [Act.put, List.setIfInBounds_toArray, List.set_cons_zero, List.set_cons_succ]
    rfl
  refine wpQuiet_nil ?_
  intro w_ h1_
  have h1 := Aside0.mk h1_
  clear h1_
  go_wp2
  go_ret
  exact ⟨rfl, h1.out.below⟩

set_option maxHeartbeats 4000000 in
set_option maxRecDepth 100000 in
theorem early2 (cs : Array Value) (ts : Array Value) (issued : Int) (more : Int) (cs0 cs1 cs2 cs3 cs4 cs5 cs6 cs7 cs8 cs9 cs10 cs11 cs12 cs13 cs14 cs15 cs16 cs17 ts0 ts1 ts2 : Int)  (w : World) (HS_cs : Aside0 (cs.size = 18)) (HS_ts : Aside0 (ts.size = 3))
    (H22 : Aside0 (Rets Try.prog 22 #[.agg cs] (.bool true)))
    (H24 : Aside0 (Rets Try.prog 24 #[.agg ts, .int .i64 issued] (.bool true)))
    (P0 : Aside0 (more < 0)) :
    Calls Try.prog 8 #[.agg cs, .agg ts, .int .i64 issued, .int .i64 more] w fun e w' => e = .returned (.bool true) ∧ Below w.heap.size w w' := by
  have HCl : Aside0 (Cls w ((w.heap.size + 1, ts, 29) :: (w.heap.size, cs, 25) :: []) ((w.alloc (.cells cs 25 (0, 0))).alloc (.cells ts 29 (0, 0)))) := ⟨Cls.put2 w _ _ _ _⟩
  go_enter Try.func8, Try.ntmps8
  go_upto_region 1 with (fail)
  refine region_p (C := Cls w ((w.heap.size + 1, ts, 29) :: (w.heap.size, cs, 25) :: [])) (HCl.out) ?_
  refine qstep (N := some 9) (v := .agg cs) (a' := ?_) rfl (by rfl) (fun w' h => load_row (h.blk1) rfl rfl Try.underlying25 rfl (by rw [HS_cs.out]; exact info25)) ?_ ?_
  rotate_left
  · simp only [Act.put, List.setIfInBounds_toArray, List.set_cons_zero, List.set_cons_succ]
    rfl
  refine qcall (N := some 10) (a' := ?_) (f := 22) Try.func22 (by kernel_rfl) rfl #[.agg cs] (by rfl) rfl rfl (by (try simp only [List.map_toArray, List.map_cons, List.map_nil]); first | done | rfl) (qcall_cls (v := .bool true) H22.out) ?_ ?_
  rotate_left
  · simp only [Act.put, List.setIfInBounds_toArray, List.set_cons_zero, List.set_cons_succ]
    rfl
  refine qstep (N := some 11) (v := .bool false) (a' := ?_) rfl (by rfl) (fun w' _ => by go_simp) ?_ ?_
  rotate_left
  · simp only [Act.put, List.setIfInBounds_toArray, List.set_cons_zero, List.set_cons_succ]
    rfl
  refine qstep (N := some 12) (v := .bool false) (a' := ?_) rfl (by rfl) (fun w' _ => by go_simp) ?_ ?_
  rotate_left
  · simp only [Act.put, List.setIfInBounds_toArray, List.set_cons_zero, List.set_cons_succ]
    rfl
  refine qstep (N := some 13) (v := .agg ts) (a' := ?_) rfl (by rfl) (fun w' h => load_row (h.blk0) rfl rfl Try.underlying29 rfl (by rw [HS_ts.out]; exact info29)) ?_ ?_
  rotate_left
  · simp only [Act.put, List.setIfInBounds_toArray, List.set_cons_zero, List.set_cons_succ]
    rfl
  refine qstep (N := some 14) (v := .int .i64 issued) (a' := ?_) rfl (by rfl) (fun w' _ => by go_simp) ?_ ?_
  rotate_left
  · simp only [Act.put, List.setIfInBounds_toArray, List.set_cons_zero, List.set_cons_succ]
    rfl
  refine qcall (N := some 15) (a' := ?_) (f := 24) Try.func24 (by kernel_rfl) rfl #[.agg ts, .int .i64 issued] (by rfl) rfl rfl (by (try simp only [List.map_toArray, List.map_cons, List.map_nil]); first | done | rfl) (qcall_cls (v := .bool true) H24.out) ?_ ?_
  rotate_left
  · simp only [Act.put, List.setIfInBounds_toArray, List.set_cons_zero, List.set_cons_succ]
    rfl
  refine qstep (N := some 16) (v := .bool false) (a' := ?_) rfl (by rfl) (fun w' _ => by go_simp) ?_ ?_
  rotate_left
  · simp only [Act.put, List.setIfInBounds_toArray, List.set_cons_zero, List.set_cons_succ]
    rfl
  refine qstep (N := some 17) (v := .bool false) (a' := ?_) rfl (by rfl) (fun w' _ => by go_simp) ?_ ?_
  rotate_left
  · simp only [Act.put, List.setIfInBounds_toArray, List.set_cons_zero, List.set_cons_succ]
    rfl
  refine qstep (N := some 18) (v := .bool false) (a' := ?_) rfl (by rfl) (fun w' _ => by go_simp) ?_ ?_
  rotate_left
  · simp only [Act.put, List.setIfInBounds_toArray, List.set_cons_zero, List.set_cons_succ]
    rfl
  refine qstep (N := some 19) (v := .int .i64 more) (a' := ?_) rfl (by rfl) (fun w' _ => by go_simp) ?_ ?_
  rotate_left
  · simp only [Act.put, List.setIfInBounds_toArray, List.set_cons_zero, List.set_cons_succ]
    rfl
  refine qstep (N := some 20) (v := .bool true) (a' := ?_) rfl (by rfl) (fun w' _ => by go_simp; (try simp only [i64_w]); first | exact P0.out | (have h_ := P0.out; omega) | exact cmp_ P0.out | exact cmpd_ P0.out | exact cmpf_ P0.out) ?_ ?_
  rotate_left
  · simp only [Act.put, List.setIfInBounds_toArray, List.set_cons_zero, List.set_cons_succ]
    rfl
  refine qstep (N := some 21) (v := .bool true) (a' := ?_) rfl (by rfl) (fun w' _ => by go_simp) ?_ ?_
  rotate_left
  · simp only [Act.put, List.setIfInBounds_toArray, List.set_cons_zero, List.set_cons_succ]
    rfl
  refine qstep (N := some 22) (v := .bool true) (a' := ?_) rfl (by rfl) (fun w' _ => by go_simp) ?_ ?_
  rotate_left
  · simp only [Act.put, List.setIfInBounds_toArray, List.set_cons_zero, List.set_cons_succ]
    rfl
  refine qskip (N := some 23) (a' := ?_) rfl (by rfl) ?_ ?_
  rotate_left
  · simp only [Act.put, List.setIfInBounds_toArray, List.set_cons_zero, List.set_cons_succ]
    rfl
  refine qskip (N := some 24) (a' := ?_) rfl (by rfl) ?_ ?_
  rotate_left
  · simp only [Act.put, List.setIfInBounds_toArray, List.set_cons_zero, List.set_cons_succ]
    rfl
  refine qstep (N := some 25) (v := .bool true) (a' := ?_) rfl (by rfl) (fun w' _ => by go_simp) ?_ ?_
  rotate_left
  · simp only [Act.put, List.setIfInBounds_toArray, List.set_cons_zero, List.set_cons_succ]
    rfl
  refine wpQuiet_nil ?_
  intro w_ h1_
  have h1 := Aside0.mk h1_
  clear h1_
  go_wp2
  go_ret
  exact ⟨rfl, h1.out.below⟩

set_option maxHeartbeats 4000000 in
set_option maxRecDepth 100000 in
theorem early3 (cs : Array Value) (ts : Array Value) (issued : Int) (more : Int) (cs0 cs1 cs2 cs3 cs4 cs5 cs6 cs7 cs8 cs9 cs10 cs11 cs12 cs13 cs14 cs15 cs16 cs17 ts0 ts1 ts2 : Int)  (w : World) (HS_cs : Aside0 (cs.size = 18)) (HS_ts : Aside0 (ts.size = 3))
    (H22 : Aside0 (Rets Try.prog 22 #[.agg cs] (.bool true)))
    (H24 : Aside0 (Rets Try.prog 24 #[.agg ts, .int .i64 issued] (.bool true)))
    (P0 : Aside0 (¬ (more < 0)))
    (P1 : Aside0 (more > 536870912)) :
    Calls Try.prog 8 #[.agg cs, .agg ts, .int .i64 issued, .int .i64 more] w fun e w' => e = .returned (.bool true) ∧ Below w.heap.size w w' := by
  have HCl : Aside0 (Cls w ((w.heap.size + 1, ts, 29) :: (w.heap.size, cs, 25) :: []) ((w.alloc (.cells cs 25 (0, 0))).alloc (.cells ts 29 (0, 0)))) := ⟨Cls.put2 w _ _ _ _⟩
  go_enter Try.func8, Try.ntmps8
  go_upto_region 1 with (fail)
  refine region_p (C := Cls w ((w.heap.size + 1, ts, 29) :: (w.heap.size, cs, 25) :: [])) (HCl.out) ?_
  refine qstep (N := some 9) (v := .agg cs) (a' := ?_) rfl (by rfl) (fun w' h => load_row (h.blk1) rfl rfl Try.underlying25 rfl (by rw [HS_cs.out]; exact info25)) ?_ ?_
  rotate_left
  · simp only [Act.put, List.setIfInBounds_toArray, List.set_cons_zero, List.set_cons_succ]
    rfl
  refine qcall (N := some 10) (a' := ?_) (f := 22) Try.func22 (by kernel_rfl) rfl #[.agg cs] (by rfl) rfl rfl (by (try simp only [List.map_toArray, List.map_cons, List.map_nil]); first | done | rfl) (qcall_cls (v := .bool true) H22.out) ?_ ?_
  rotate_left
  · simp only [Act.put, List.setIfInBounds_toArray, List.set_cons_zero, List.set_cons_succ]
    rfl
  refine qstep (N := some 11) (v := .bool false) (a' := ?_) rfl (by rfl) (fun w' _ => by go_simp) ?_ ?_
  rotate_left
  · simp only [Act.put, List.setIfInBounds_toArray, List.set_cons_zero, List.set_cons_succ]
    rfl
  refine qstep (N := some 12) (v := .bool false) (a' := ?_) rfl (by rfl) (fun w' _ => by go_simp) ?_ ?_
  rotate_left
  · simp only [Act.put, List.setIfInBounds_toArray, List.set_cons_zero, List.set_cons_succ]
    rfl
  refine qstep (N := some 13) (v := .agg ts) (a' := ?_) rfl (by rfl) (fun w' h => load_row (h.blk0) rfl rfl Try.underlying29 rfl (by rw [HS_ts.out]; exact info29)) ?_ ?_
  rotate_left
  · simp only [Act.put, List.setIfInBounds_toArray, List.set_cons_zero, List.set_cons_succ]
    rfl
  refine qstep (N := some 14) (v := .int .i64 issued) (a' := ?_) rfl (by rfl) (fun w' _ => by go_simp) ?_ ?_
  rotate_left
  · simp only [Act.put, List.setIfInBounds_toArray, List.set_cons_zero, List.set_cons_succ]
    rfl
  refine qcall (N := some 15) (a' := ?_) (f := 24) Try.func24 (by kernel_rfl) rfl #[.agg ts, .int .i64 issued] (by rfl) rfl rfl (by (try simp only [List.map_toArray, List.map_cons, List.map_nil]); first | done | rfl) (qcall_cls (v := .bool true) H24.out) ?_ ?_
  rotate_left
  · simp only [Act.put, List.setIfInBounds_toArray, List.set_cons_zero, List.set_cons_succ]
    rfl
  refine qstep (N := some 16) (v := .bool false) (a' := ?_) rfl (by rfl) (fun w' _ => by go_simp) ?_ ?_
  rotate_left
  · simp only [Act.put, List.setIfInBounds_toArray, List.set_cons_zero, List.set_cons_succ]
    rfl
  refine qstep (N := some 17) (v := .bool false) (a' := ?_) rfl (by rfl) (fun w' _ => by go_simp) ?_ ?_
  rotate_left
  · simp only [Act.put, List.setIfInBounds_toArray, List.set_cons_zero, List.set_cons_succ]
    rfl
  refine qstep (N := some 18) (v := .bool false) (a' := ?_) rfl (by rfl) (fun w' _ => by go_simp) ?_ ?_
  rotate_left
  · simp only [Act.put, List.setIfInBounds_toArray, List.set_cons_zero, List.set_cons_succ]
    rfl
  refine qstep (N := some 19) (v := .int .i64 more) (a' := ?_) rfl (by rfl) (fun w' _ => by go_simp) ?_ ?_
  rotate_left
  · simp only [Act.put, List.setIfInBounds_toArray, List.set_cons_zero, List.set_cons_succ]
    rfl
  refine qstep (N := some 20) (v := .bool false) (a' := ?_) rfl (by rfl) (fun w' _ => by go_simp; (try simp only [i64_w]); first | exact P0.out | (have h_ := P0.out; omega) | exact cmp_ P0.out | exact cmpd_ P0.out | exact cmpf_ P0.out) ?_ ?_
  rotate_left
  · simp only [Act.put, List.setIfInBounds_toArray, List.set_cons_zero, List.set_cons_succ]
    rfl
  refine qstep (N := some 21) (v := .bool false) (a' := ?_) rfl (by rfl) (fun w' _ => by go_simp) ?_ ?_
  rotate_left
  · simp only [Act.put, List.setIfInBounds_toArray, List.set_cons_zero, List.set_cons_succ]
    rfl
  refine qstep (N := some 22) (v := .bool false) (a' := ?_) rfl (by rfl) (fun w' _ => by go_simp) ?_ ?_
  rotate_left
  · simp only [Act.put, List.setIfInBounds_toArray, List.set_cons_zero, List.set_cons_succ]
    rfl
  refine qstep (N := some 23) (v := .int .i64 more) (a' := ?_) rfl (by rfl) (fun w' _ => by go_simp) ?_ ?_
  rotate_left
  · simp only [Act.put, List.setIfInBounds_toArray, List.set_cons_zero, List.set_cons_succ]
    rfl
  refine qstep (N := some 24) (v := .bool true) (a' := ?_) rfl (by rfl) (fun w' _ => by go_simp; (try simp only [i64_w]); first | exact P1.out | (have h_ := P1.out; omega) | exact cmp_ P1.out | exact cmpd_ P1.out | exact cmpf_ P1.out) ?_ ?_
  rotate_left
  · simp only [Act.put, List.setIfInBounds_toArray, List.set_cons_zero, List.set_cons_succ]
    rfl
  refine qstep (N := some 25) (v := .bool true) (a' := ?_) rfl (by rfl) (fun w' _ => by go_simp) ?_ ?_
  rotate_left
  · simp only [Act.put, List.setIfInBounds_toArray, List.set_cons_zero, List.set_cons_succ]
    rfl
  refine wpQuiet_nil ?_
  intro w_ h1_
  have h1 := Aside0.mk h1_
  clear h1_
  go_wp2
  go_ret
  exact ⟨rfl, h1.out.below⟩

set_option maxHeartbeats 4000000 in
set_option maxRecDepth 100000 in
theorem main (cs : Array Value) (ts : Array Value) (issued : Int) (more : Int) (cs0 cs1 cs2 cs3 cs4 cs5 cs6 cs7 cs8 cs9 cs10 cs11 cs12 cs13 cs14 cs15 cs16 cs17 ts0 ts1 ts2 : Int) (r : Bool) (w : World) (HS_cs : Aside0 (cs.size = 18)) (HC_cs_3 : Aside0 (cs[3]? = some (.int .i64 cs3))) (HS_ts : Aside0 (ts.size = 3))
    (H22 : Aside0 (Rets Try.prog 22 #[.agg cs] (.bool true)))
    (H24 : Aside0 (Rets Try.prog 24 #[.agg ts, .int .i64 issued] (.bool true)))
    (H23 : Aside0 (Rets Try.prog 23 #[] (.bool true)))
    (H27a : Aside0 (Rets Try.prog 27 #[.agg cs, .agg ts, .int .i64 issued, .int .i64 cs3] (.bool r)))
    (H27b : Aside0 (Rets Try.prog 27 #[.agg cs, .agg ts, .int .i64 issued, .int .i64 (wrap64 (cs3 + more))] (.bool r)))
    (P0 : Aside0 (¬ (more < 0)))
    (P1 : Aside0 (¬ (more > 536870912))) :
    Calls Try.prog 8 #[.agg cs, .agg ts, .int .i64 issued, .int .i64 more] w fun e w' => e = .returned (.bool true) ∧ Below w.heap.size w w' := by
  have HCl : Aside0 (Cls w ((w.heap.size + 1, ts, 29) :: (w.heap.size, cs, 25) :: []) ((w.alloc (.cells cs 25 (0, 0))).alloc (.cells ts 29 (0, 0)))) := ⟨Cls.put2 w _ _ _ _⟩
  go_enter Try.func8, Try.ntmps8
  go_upto_region 1 with (fail)
  refine region_p (C := Cls w ((w.heap.size + 1, ts, 29) :: (w.heap.size, cs, 25) :: [])) (HCl.out) ?_
  refine qstep (N := some 9) (v := .agg cs) (a' := ?_) rfl (by rfl) (fun w' h => load_row (h.blk1) rfl rfl Try.underlying25 rfl (by rw [HS_cs.out]; exact info25)) ?_ ?_
  rotate_left
  · simp only [Act.put, List.setIfInBounds_toArray, List.set_cons_zero, List.set_cons_succ]
    rfl
  refine qcall (N := some 10) (a' := ?_) (f := 22) Try.func22 (by kernel_rfl) rfl #[.agg cs] (by rfl) rfl rfl (by (try simp only [List.map_toArray, List.map_cons, List.map_nil]); first | done | rfl) (qcall_cls (v := .bool true) H22.out) ?_ ?_
  rotate_left
  · simp only [Act.put, List.setIfInBounds_toArray, List.set_cons_zero, List.set_cons_succ]
    rfl
  refine qstep (N := some 11) (v := .bool false) (a' := ?_) rfl (by rfl) (fun w' _ => by go_simp) ?_ ?_
  rotate_left
  · simp only [Act.put, List.setIfInBounds_toArray, List.set_cons_zero, List.set_cons_succ]
    rfl
  refine qstep (N := some 12) (v := .bool false) (a' := ?_) rfl (by rfl) (fun w' _ => by go_simp) ?_ ?_
  rotate_left
  · simp only [Act.put, List.setIfInBounds_toArray, List.set_cons_zero, List.set_cons_succ]
    rfl
  refine qstep (N := some 13) (v := .agg ts) (a' := ?_) rfl (by rfl) (fun w' h => load_row (h.blk0) rfl rfl Try.underlying29 rfl (by rw [HS_ts.out]; exact info29)) ?_ ?_
  rotate_left
  · simp only [Act.put, List.setIfInBounds_toArray, List.set_cons_zero, List.set_cons_succ]
    rfl
  refine qstep (N := some 14) (v := .int .i64 issued) (a' := ?_) rfl (by rfl) (fun w' _ => by go_simp) ?_ ?_
  rotate_left
  · simp only [Act.put, List.setIfInBounds_toArray, List.set_cons_zero, List.set_cons_succ]
    rfl
  refine qcall (N := some 15) (a' := ?_) (f := 24) Try.func24 (by kernel_rfl) rfl #[.agg ts, .int .i64 issued] (by rfl) rfl rfl (by (try simp only [List.map_toArray, List.map_cons, List.map_nil]); first | done | rfl) (qcall_cls (v := .bool true) H24.out) ?_ ?_
  rotate_left
  · simp only [Act.put, List.setIfInBounds_toArray, List.set_cons_zero, List.set_cons_succ]
    rfl
  refine qstep (N := some 16) (v := .bool false) (a' := ?_) rfl (by rfl) (fun w' _ => by go_simp) ?_ ?_
  rotate_left
  · simp only [Act.put, List.setIfInBounds_toArray, List.set_cons_zero, List.set_cons_succ]
    rfl
  refine qstep (N := some 17) (v := .bool false) (a' := ?_) rfl (by rfl) (fun w' _ => by go_simp) ?_ ?_
  rotate_left
  · simp only [Act.put, List.setIfInBounds_toArray, List.set_cons_zero, List.set_cons_succ]
    rfl
  refine qstep (N := some 18) (v := .bool false) (a' := ?_) rfl (by rfl) (fun w' _ => by go_simp) ?_ ?_
  rotate_left
  · simp only [Act.put, List.setIfInBounds_toArray, List.set_cons_zero, List.set_cons_succ]
    rfl
  refine qstep (N := some 19) (v := .int .i64 more) (a' := ?_) rfl (by rfl) (fun w' _ => by go_simp) ?_ ?_
  rotate_left
  · simp only [Act.put, List.setIfInBounds_toArray, List.set_cons_zero, List.set_cons_succ]
    rfl
  refine qstep (N := some 20) (v := .bool false) (a' := ?_) rfl (by rfl) (fun w' _ => by go_simp; (try simp only [i64_w]); first | exact P0.out | (have h_ := P0.out; omega) | exact cmp_ P0.out | exact cmpd_ P0.out | exact cmpf_ P0.out) ?_ ?_
  rotate_left
  · simp only [Act.put, List.setIfInBounds_toArray, List.set_cons_zero, List.set_cons_succ]
    rfl
  refine qstep (N := some 21) (v := .bool false) (a' := ?_) rfl (by rfl) (fun w' _ => by go_simp) ?_ ?_
  rotate_left
  · simp only [Act.put, List.setIfInBounds_toArray, List.set_cons_zero, List.set_cons_succ]
    rfl
  refine qstep (N := some 22) (v := .bool false) (a' := ?_) rfl (by rfl) (fun w' _ => by go_simp) ?_ ?_
  rotate_left
  · simp only [Act.put, List.setIfInBounds_toArray, List.set_cons_zero, List.set_cons_succ]
    rfl
  refine qstep (N := some 23) (v := .int .i64 more) (a' := ?_) rfl (by rfl) (fun w' _ => by go_simp) ?_ ?_
  rotate_left
  · simp only [Act.put, List.setIfInBounds_toArray, List.set_cons_zero, List.set_cons_succ]
    rfl
  refine qstep (N := some 24) (v := .bool false) (a' := ?_) rfl (by rfl) (fun w' _ => by go_simp; (try simp only [i64_w]); first | exact P1.out | (have h_ := P1.out; omega) | exact cmp_ P1.out | exact cmpd_ P1.out | exact cmpf_ P1.out) ?_ ?_
  rotate_left
  · simp only [Act.put, List.setIfInBounds_toArray, List.set_cons_zero, List.set_cons_succ]
    rfl
  refine qstep (N := some 25) (v := .bool false) (a' := ?_) rfl (by rfl) (fun w' _ => by go_simp) ?_ ?_
  rotate_left
  · simp only [Act.put, List.setIfInBounds_toArray, List.set_cons_zero, List.set_cons_succ]
    rfl
  refine wpQuiet_nil ?_
  intro w_ h1_
  have h1 := Aside0.mk h1_
  clear h1_
  go_upto_region 3 with (fail)
  refine region_q (C := Cls w ((w.heap.size + 1, ts, 29) :: (w.heap.size, cs, 25) :: [])) (by kernel_rfl) (by kernel_rfl) (h1.out.drew) ?_
  refine qstep (N := some 26) (v := .agg cs) (a' := ?_) rfl (by rfl) (fun w' h => load_row (h.blk1) rfl rfl Try.underlying25 rfl (by rw [HS_cs.out]; exact info25)) ?_ ?_
  rotate_left
  · simp only [Act.put, List.setIfInBounds_toArray, List.set_cons_zero, List.set_cons_succ]
    rfl
  refine qstep (N := some 27) (v := .agg ts) (a' := ?_) rfl (by rfl) (fun w' h => load_row (h.blk0) rfl rfl Try.underlying29 rfl (by rw [HS_ts.out]; exact info29)) ?_ ?_
  rotate_left
  · simp only [Act.put, List.setIfInBounds_toArray, List.set_cons_zero, List.set_cons_succ]
    rfl
  refine qstep (N := some 28) (v := .int .i64 issued) (a' := ?_) rfl (by rfl) (fun w' _ => by go_simp) ?_ ?_
  rotate_left
  · simp only [Act.put, List.setIfInBounds_toArray, List.set_cons_zero, List.set_cons_succ]
    rfl
  refine qstep (N := some 29) (v := .pointer (some ⟨w.heap.size, 3, none⟩)) (a' := ?_) rfl (by rfl) (fun w' _ => by go_simp) ?_ ?_
  rotate_left
  · simp only [Act.put, List.setIfInBounds_toArray, List.set_cons_zero, List.set_cons_succ]
    rfl
  refine qstep (N := some 30) (v := .int .i64 cs3) (a' := ?_) rfl (by rfl) (fun w' h => load_cell (h.blk1) HC_cs_3.out rfl rfl Try.underlying3 rfl) ?_ ?_
  rotate_left
  · simp only [Act.put, List.setIfInBounds_toArray, List.set_cons_zero, List.set_cons_succ]
    rfl
  refine qcall (N := some 31) (a' := ?_) (f := 27) Try.func27 (by kernel_rfl) rfl #[.agg cs, .agg ts, .int .i64 issued, .int .i64 cs3] (by rfl) rfl rfl (by (try simp only [List.map_toArray, List.map_cons, List.map_nil]); first | done | rfl) (qcall_cls (v := .bool r) H27a.out) ?_ ?_
  rotate_left
  · simp only [Act.put, List.setIfInBounds_toArray, List.set_cons_zero, List.set_cons_succ]
    rfl
  refine qstep (N := some 32) (v := .agg cs) (a' := ?_) rfl (by rfl) (fun w' h => load_row (h.blk1) rfl rfl Try.underlying25 rfl (by rw [HS_cs.out]; exact info25)) ?_ ?_
  rotate_left
  · simp only [Act.put, List.setIfInBounds_toArray, List.set_cons_zero, List.set_cons_succ]
    rfl
  refine qstep (N := some 33) (v := .agg ts) (a' := ?_) rfl (by rfl) (fun w' h => load_row (h.blk0) rfl rfl Try.underlying29 rfl (by rw [HS_ts.out]; exact info29)) ?_ ?_
  rotate_left
  · simp only [Act.put, List.setIfInBounds_toArray, List.set_cons_zero, List.set_cons_succ]
    rfl
  refine qstep (N := some 34) (v := .int .i64 issued) (a' := ?_) rfl (by rfl) (fun w' _ => by go_simp) ?_ ?_
  rotate_left
  · simp only [Act.put, List.setIfInBounds_toArray, List.set_cons_zero, List.set_cons_succ]
    rfl
  refine qstep (N := some 35) (v := .pointer (some ⟨w.heap.size, 3, none⟩)) (a' := ?_) rfl (by rfl) (fun w' _ => by go_simp) ?_ ?_
  rotate_left
  · simp only [Act.put, List.setIfInBounds_toArray, List.set_cons_zero, List.set_cons_succ]
    rfl
  refine qstep (N := some 36) (v := .int .i64 cs3) (a' := ?_) rfl (by rfl) (fun w' h => load_cell (h.blk1) HC_cs_3.out rfl rfl Try.underlying3 rfl) ?_ ?_
  rotate_left
  · simp only [Act.put, List.setIfInBounds_toArray, List.set_cons_zero, List.set_cons_succ]
    rfl
  refine qstep (N := some 37) (v := .int .i64 more) (a' := ?_) rfl (by rfl) (fun w' _ => by go_simp) ?_ ?_
  rotate_left
  · simp only [Act.put, List.setIfInBounds_toArray, List.set_cons_zero, List.set_cons_succ]
    rfl
  refine qstep (N := some 38) (v := .int .i64 (wrap64 (cs3 + more))) (a' := ?_) rfl (by rfl) (fun w' _ => by go_simp <;> simp only [i64_w]) ?_ ?_
  rotate_left
  · simp only [Act.put, List.setIfInBounds_toArray, List.set_cons_zero, List.set_cons_succ]
    rfl
  refine qcall (N := some 39) (a' := ?_) (f := 27) Try.func27 (by kernel_rfl) rfl #[.agg cs, .agg ts, .int .i64 issued, .int .i64 (wrap64 (cs3 + more))] (by rfl) rfl rfl (by (try simp only [List.map_toArray, List.map_cons, List.map_nil]); first | done | rfl) (qcall_cls (v := .bool r) H27b.out) ?_ ?_
  rotate_left
  · simp only [Act.put, List.setIfInBounds_toArray, List.set_cons_zero, List.set_cons_succ]
    rfl
  refine qstep (N := some 40) (v := .bool true) (a' := ?_) rfl (by rfl) (fun w' _ => by go_simp) ?_ ?_
  rotate_left
  · simp only [Act.put, List.setIfInBounds_toArray, List.set_cons_zero, List.set_cons_succ]
    rfl
  refine qstep (N := some 41) (v := .bool true) (a' := ?_) rfl (by rfl) (fun w' _ => by go_simp) ?_ ?_
  rotate_left
  · simp only [Act.put, List.setIfInBounds_toArray, List.set_cons_zero, List.set_cons_succ]
    rfl
  refine qcall (N := some 42) (a' := ?_) (f := 23) Try.func23 (by kernel_rfl) rfl #[] (by rfl) rfl rfl (by (try simp only [List.map_toArray, List.map_cons, List.map_nil]); first | done | rfl) (qcall_cls (v := .bool true) H23.out) ?_ ?_
  rotate_left
  · simp only [Act.put, List.setIfInBounds_toArray, List.set_cons_zero, List.set_cons_succ]
    rfl
  refine qstep (N := some 43) (v := .bool true) (a' := ?_) rfl (by rfl) (fun w' _ => by go_simp) ?_ ?_
  rotate_left
  · simp only [Act.put, List.setIfInBounds_toArray, List.set_cons_zero, List.set_cons_succ]
    rfl
  refine qstep (N := some 8) (v := .bool true) (a' := ?_) rfl (by rfl) (fun w' _ => by go_simp) ?_ ?_
  rotate_left
  · simp only [Act.put, List.setIfInBounds_toArray, List.set_cons_zero, List.set_cons_succ]
    rfl
  refine wpQuiet_nil ?_
  intro w_ h3_
  have h3 := Aside0.mk h3_
  clear h3_
  go_wp2
  go_ret
  exact ⟨rfl, h3.out.below⟩

open TrackBase in
theorem walk (cs0 cs1 cs2 cs3 cs4 cs5 cs6 cs7 cs8 cs9 cs10 cs11 cs12 cs13 cs14 cs15 cs16 cs17 x0 x1 x2 issued more : Int) (w : World) (_ : (Lit.int .i64 x0).wf = true ∧ (Lit.int .i64 x1).wf = true ∧ (Lit.int .i64 x2).wf = true) (_ : (Lit.int .i64 issued).wf = true) (_ : (Lit.int .i64 more).wf = true) :
    Calls Try.prog 8 #[agg18 cs0 cs1 cs2 cs3 cs4 cs5 cs6 cs7 cs8 cs9 cs10 cs11 cs12 cs13 cs14 cs15 cs16 cs17, agg3 x0 x1 x2, .int .i64 issued, .int .i64 more] w fun e w' => e = .returned (.bool true) ∧ Below w.heap.size w w' := by
  by_cases ok : okTrack cs0 cs1 cs2 cs3 cs4 cs5 cs6 cs7 cs8 cs9 cs10 cs11 cs12 cs13 cs14 cs15 cs16 cs17
  · have h22 := is_ cs0 cs1 cs2 cs3 cs4 cs5 cs6 cs7 cs8 cs9 cs10 cs11 cs12 cs13 cs14 cs15 cs16 cs17 (decide_eq_true ok)
    by_cases hx : okTally x0 x1 x2 issued
    · have h24 := fits_ x0 x1 x2 issued (decide_eq_true hx)
      by_cases m0 : more < 0
      · exact early2 (cs := _) (ts := _) (issued := issued) (more := more) (w := w) (HS_cs := ⟨rfl⟩) (HS_ts := ⟨rfl⟩) (H22 := ⟨h22⟩) (H24 := ⟨h24⟩) (P0 := ⟨m0⟩) (cs0 := cs0) (cs1 := cs1) (cs2 := cs2) (cs3 := cs3) (cs4 := cs4) (cs5 := cs5) (cs6 := cs6) (cs7 := cs7) (cs8 := cs8) (cs9 := cs9) (cs10 := cs10) (cs11 := cs11) (cs12 := cs12) (cs13 := cs13) (cs14 := cs14) (cs15 := cs15) (cs16 := cs16) (cs17 := cs17) (ts0 := x0) (ts1 := x1) (ts2 := x2)
      · by_cases m1 : more > 536870912
        · exact early3 (cs := _) (ts := _) (issued := issued) (more := more) (w := w) (HS_cs := ⟨rfl⟩) (HS_ts := ⟨rfl⟩) (H22 := ⟨h22⟩) (H24 := ⟨h24⟩) (P0 := ⟨m0⟩) (P1 := ⟨m1⟩) (cs0 := cs0) (cs1 := cs1) (cs2 := cs2) (cs3 := cs3) (cs4 := cs4) (cs5 := cs5) (cs6 := cs6) (cs7 := cs7) (cs8 := cs8) (cs9 := cs9) (cs10 := cs10) (cs11 := cs11) (cs12 := cs12) (cs13 := cs13) (cs14 := cs14) (cs15 := cs15) (cs16 := cs16) (cs17 := cs17) (ts0 := x0) (ts1 := x1) (ts2 := x2)
        · have dd := ok.2.2.2.2.2.2.1
          have same : decide (pass cs3 cs6 cs7 cs8 cs9 cs10 cs11 cs12 cs13 cs14 cs15 x0 x1 x2 issued (wrap64 (cs3 + more))) = decide (pass cs3 cs6 cs7 cs8 cs9 cs10 cs11 cs12 cs13 cs14 cs15 x0 x1 x2 issued cs3) := by
            have e : spot (wrap64 (cs3 + more)) cs3 = spot cs3 cs3 := by
              rw [w64 (by omega) (by omega)]
              unfold spot
              rw [show min (cs3 + more) cs3 = min cs3 cs3 by omega]
            rw [decide_eq_decide]
            unfold pass
            rw [e]
          exact main (cs := _) (ts := _) (issued := issued) (more := more) (w := w) (r := _) (HS_cs := ⟨rfl⟩) (HS_ts := ⟨rfl⟩) (HC_cs_3 := ⟨rfl⟩) (H22 := ⟨h22⟩) (H24 := ⟨h24⟩) (H23 := ⟨known_⟩) (P0 := ⟨m0⟩) (P1 := ⟨m1⟩)
            (H27a := ⟨passing_ cs0 cs1 cs2 cs3 cs4 cs5 cs6 cs7 cs8 cs9 cs10 cs11 cs12 cs13 cs14 cs15 cs16 cs17 x0 x1 x2 issued cs3 ok hx (by omega) rfl⟩) (H27b := ⟨passing_ cs0 cs1 cs2 cs3 cs4 cs5 cs6 cs7 cs8 cs9 cs10 cs11 cs12 cs13 cs14 cs15 cs16 cs17 x0 x1 x2 issued (wrap64 (cs3 + more)) ok hx (by rw [w64 (by omega) (by omega)]; omega) same⟩) (cs0 := cs0) (cs1 := cs1) (cs2 := cs2) (cs3 := cs3) (cs4 := cs4) (cs5 := cs5) (cs6 := cs6) (cs7 := cs7) (cs8 := cs8) (cs9 := cs9) (cs10 := cs10) (cs11 := cs11) (cs12 := cs12) (cs13 := cs13) (cs14 := cs14) (cs15 := cs15) (cs16 := cs16) (cs17 := cs17) (ts0 := x0) (ts1 := x1) (ts2 := x2)
    · exact early1 (cs := _) (ts := _) (issued := issued) (more := more) (w := w) (HS_cs := ⟨rfl⟩) (HS_ts := ⟨rfl⟩) (H22 := ⟨h22⟩) (H24 := ⟨fits_ x0 x1 x2 issued (decide_eq_false hx)⟩) (cs0 := cs0) (cs1 := cs1) (cs2 := cs2) (cs3 := cs3) (cs4 := cs4) (cs5 := cs5) (cs6 := cs6) (cs7 := cs7) (cs8 := cs8) (cs9 := cs9) (cs10 := cs10) (cs11 := cs11) (cs12 := cs12) (cs13 := cs13) (cs14 := cs14) (cs15 := cs15) (cs16 := cs16) (cs17 := cs17) (ts0 := x0) (ts1 := x1) (ts2 := x2)
  · exact early0 (cs := _) (ts := _) (issued := issued) (more := more) (w := w) (HS_cs := ⟨rfl⟩) (HS_ts := ⟨rfl⟩) (H22 := ⟨is_ cs0 cs1 cs2 cs3 cs4 cs5 cs6 cs7 cs8 cs9 cs10 cs11 cs12 cs13 cs14 cs15 cs16 cs17 (decide_eq_false ok)⟩) (cs0 := cs0) (cs1 := cs1) (cs2 := cs2) (cs3 := cs3) (cs4 := cs4) (cs5 := cs5) (cs6 := cs6) (cs7 := cs7) (cs8 := cs8) (cs9 := cs9) (cs10 := cs10) (cs11 := cs11) (cs12 := cs12) (cs13 := cs13) (cs14 := cs14) (cs15 := cs15) (cs16 := cs16) (cs17 := cs17) (ts0 := x0) (ts1 := x1) (ts2 := x2)

end Go.Proofs.Ytpnjddolboahoaa.WalkTrackStill
