/- Of any tally both shares, of a track whether it passes, as the reference tells them: the law answers true at every track, tally, number and block. -/
import Derived.Test.YtpnjddolboahoaaTrackRefs
namespace Go.Proofs.Ytpnjddolboahoaa.WalkTrackTells
open Go.RowKit Go.Proofs.YtpnjddolboahoaaW.PrintWords Go.Proofs.YtpnjddolboahoaaW.PrintLast Go.Proofs.YtpnjddolboahoaaW.PrintMore Go.Proofs.Ytpnjddolboahoaa.Math Go.Proofs.Ytpnjddolboahoaa.Q
attribute [local go_sem] max2_int min2_int max_two min_two
set_option linter.unusedVariables false
set_option linter.unusedSimpArgs false

theorem info23 : (Try.prog.info? 23).map (·.size) = some 5 := by kernel_rfl
theorem info25 : (Try.prog.info? 25).map (·.size) = some 18 := by kernel_rfl
theorem info29 : (Try.prog.info? 29).map (·.size) = some 3 := by kernel_rfl
theorem cmp_ {a b : Int} {w : World} (h : a = b) : Result.ok (Next.value (.bool (a == b))) w = Result.ok (Next.value (.bool true)) w := by rw [beq_iff_eq.mpr h]
theorem cmpd_ {p : Prop} [Decidable p] {w : World} (h : p) : Result.ok (Next.value (.bool (decide p))) w = Result.ok (Next.value (.bool true)) w := by rw [decide_eq_true h]
theorem cmpf_ {p : Prop} [Decidable p] {w : World} (h : ¬ p) : Result.ok (Next.value (.bool (decide p))) w = Result.ok (Next.value (.bool false)) w := by rw [decide_eq_false h]

set_option maxHeartbeats 4000000 in
set_option maxRecDepth 100000 in
theorem early0 (cs : Array Value) (ts : Array Value) (issued : Int) (e : Int) (cs0 cs1 cs2 cs3 cs4 cs5 cs6 cs7 cs8 cs9 cs10 cs11 cs12 cs13 cs14 cs15 cs16 cs17 ts0 ts1 ts2 : Int)  (w : World) (HS_cs : Aside0 (cs.size = 18)) (HS_ts : Aside0 (ts.size = 3))
    (H24 : Aside0 (Rets Try.prog 24 #[.agg ts, .int .i64 issued] (.bool false))) :
    Calls Try.prog 4 #[.agg cs, .agg ts, .int .i64 issued, .int .i64 e] w fun e w' => e = .returned (.bool true) ∧ Below w.heap.size w w' := by
  have HCl : Aside0 (Cls w ((w.heap.size + 1, ts, 29) :: (w.heap.size, cs, 25) :: []) ((w.alloc (.cells cs 25 (0, 0))).alloc (.cells ts 29 (0, 0)))) := ⟨Cls.put2 w _ _ _ _⟩
  go_enter Try.func4, Try.ntmps4
  go_upto_region 1 with (fail)
  refine region_p (C := Cls w ((w.heap.size + 1, ts, 29) :: (w.heap.size, cs, 25) :: [])) (HCl.out) ?_
  refine qstep (N := some 13) (v := .agg ts) (a' := ?_) rfl (by rfl) (fun w' h => load_row (h.blk0) rfl rfl Try.underlying29 rfl (by rw [HS_ts.out]; exact info29)) ?_ ?_
  rotate_left
  · simp only [Act.put, List.setIfInBounds_toArray, List.set_cons_zero, List.set_cons_succ]
    rfl
  refine qstep (N := some 14) (v := .int .i64 issued) (a' := ?_) rfl (by rfl) (fun w' _ => by go_simp) ?_ ?_
  rotate_left
  · simp only [Act.put, List.setIfInBounds_toArray, List.set_cons_zero, List.set_cons_succ]
    rfl
  refine qcall (N := some 15) (a' := ?_) (f := 24) Try.func24 (by kernel_rfl) rfl #[.agg ts, .int .i64 issued] (by rfl) rfl rfl (by (try simp only [List.map_toArray, List.map_cons, List.map_nil]); first | done | rfl) (qcall_cls (v := .bool false) H24.out) ?_ ?_
  rotate_left
  · simp only [Act.put, List.setIfInBounds_toArray, List.set_cons_zero, List.set_cons_succ]
    rfl
  refine qstep (N := some 16) (v := .bool true) (a' := ?_) rfl (by rfl) (fun w' _ => by go_simp) ?_ ?_
  rotate_left
  · simp only [Act.put, List.setIfInBounds_toArray, List.set_cons_zero, List.set_cons_succ]
    rfl
  refine wpQuiet_nil ?_
  intro w_ h1_
  have h1 := Aside0.mk h1_
  clear h1_
  go_wp2
  go_ret
  exact ⟨rfl, h1.out.below⟩

set_option maxHeartbeats 4000000 in
set_option maxRecDepth 100000 in
theorem early1 (cs : Array Value) (ts : Array Value) (issued : Int) (e : Int) (cs0 cs1 cs2 cs3 cs4 cs5 cs6 cs7 cs8 cs9 cs10 cs11 cs12 cs13 cs14 cs15 cs16 cs17 ts0 ts1 ts2 : Int) (va vs : Int) (w : World) (HS_cs : Aside0 (cs.size = 18)) (HS_ts : Aside0 (ts.size = 3))
    (H24 : Aside0 (Rets Try.prog 24 #[.agg ts, .int .i64 issued] (.bool true)))
    (H25 : Aside0 (Rets Try.prog 25 #[.agg ts, .int .i64 issued] (.tuple #[.int .i64 va, .int .i64 vs])))
    (H26 : Aside0 (Rets Try.prog 26 #[.agg ts, .int .i64 issued] (.tuple #[.int .i64 va, .int .i64 vs])))
    (H22 : Aside0 (Rets Try.prog 22 #[.agg cs] (.bool false)))
    (H23 : Aside0 (Rets Try.prog 23 #[] (.bool true))) :
    Calls Try.prog 4 #[.agg cs, .agg ts, .int .i64 issued, .int .i64 e] w fun e w' => e = .returned (.bool true) ∧ Below w.heap.size w w' := by
  have HCl : Aside0 (Cls w ((w.heap.size + 1, ts, 29) :: (w.heap.size, cs, 25) :: []) ((w.alloc (.cells cs 25 (0, 0))).alloc (.cells ts 29 (0, 0)))) := ⟨Cls.put2 w _ _ _ _⟩
  go_enter Try.func4, Try.ntmps4
  go_upto_region 1 with (fail)
  refine region_p (C := Cls w ((w.heap.size + 1, ts, 29) :: (w.heap.size, cs, 25) :: [])) (HCl.out) ?_
  refine qstep (N := some 13) (v := .agg ts) (a' := ?_) rfl (by rfl) (fun w' h => load_row (h.blk0) rfl rfl Try.underlying29 rfl (by rw [HS_ts.out]; exact info29)) ?_ ?_
  rotate_left
  · simp only [Act.put, List.setIfInBounds_toArray, List.set_cons_zero, List.set_cons_succ]
    rfl
  refine qstep (N := some 14) (v := .int .i64 issued) (a' := ?_) rfl (by rfl) (fun w' _ => by go_simp) ?_ ?_
  rotate_left
  · simp only [Act.put, List.setIfInBounds_toArray, List.set_cons_zero, List.set_cons_succ]
    rfl
  refine qcall (N := some 15) (a' := ?_) (f := 24) Try.func24 (by kernel_rfl) rfl #[.agg ts, .int .i64 issued] (by rfl) rfl rfl (by (try simp only [List.map_toArray, List.map_cons, List.map_nil]); first | done | rfl) (qcall_cls (v := .bool true) H24.out) ?_ ?_
  rotate_left
  · simp only [Act.put, List.setIfInBounds_toArray, List.set_cons_zero, List.set_cons_succ]
    rfl
  refine qstep (N := some 16) (v := .bool false) (a' := ?_) rfl (by rfl) (fun w' _ => by go_simp) ?_ ?_
  rotate_left
  · simp only [Act.put, List.setIfInBounds_toArray, List.set_cons_zero, List.set_cons_succ]
    rfl
  refine wpQuiet_nil ?_
  intro w_ h1_
  have h1 := Aside0.mk h1_
  clear h1_
  go_upto_region 3 with (fail)
  refine region_p (C := Cls w ((w.heap.size + 1, ts, 29) :: (w.heap.size, cs, 25) :: [])) (h1.out) ?_
  refine qstep (N := some 18) (v := .agg ts) (a' := ?_) rfl (by rfl) (fun w' h => load_row (h.blk0) rfl rfl Try.underlying29 rfl (by rw [HS_ts.out]; exact info29)) ?_ ?_
  rotate_left
  · simp only [Act.put, List.setIfInBounds_toArray, List.set_cons_zero, List.set_cons_succ]
    rfl
  refine qstep (N := some 19) (v := .int .i64 issued) (a' := ?_) rfl (by rfl) (fun w' _ => by go_simp) ?_ ?_
  rotate_left
  · simp only [Act.put, List.setIfInBounds_toArray, List.set_cons_zero, List.set_cons_succ]
    rfl
  refine qcall (N := some 20) (a' := ?_) (f := 25) Try.func25 (by kernel_rfl) rfl #[.agg ts, .int .i64 issued] (by rfl) rfl rfl (by (try simp only [List.map_toArray, List.map_cons, List.map_nil]); first | done | rfl) (qcall_cls (v := .tuple #[.int .i64 va, .int .i64 vs]) H25.out) ?_ ?_
  rotate_left
  · simp only [Act.put, List.setIfInBounds_toArray, List.set_cons_zero, List.set_cons_succ]
    rfl
  refine qstep (N := some 17) (v := .tuple #[.int .i64 va, .int .i64 vs]) (a' := ?_) rfl (by rfl) (fun w' _ => by go_simp) ?_ ?_
  rotate_left
  · simp only [Act.put, List.setIfInBounds_toArray, List.set_cons_zero, List.set_cons_succ]
    rfl
  refine qstep (N := some 21) (v := .int .i64 va) (a' := ?_) rfl (by rfl) (fun w' _ => by go_simp) ?_ ?_
  rotate_left
  · simp only [Act.put, List.setIfInBounds_toArray, List.set_cons_zero, List.set_cons_succ]
    rfl
  refine qstep (N := some 22) (v := .int .i64 vs) (a' := ?_) rfl (by rfl) (fun w' _ => by go_simp) ?_ ?_
  rotate_left
  · simp only [Act.put, List.setIfInBounds_toArray, List.set_cons_zero, List.set_cons_succ]
    rfl
  refine qstep (N := some 9) (v := .int .i64 va) (a' := ?_) rfl (by rfl) (fun w' _ => by go_simp) ?_ ?_
  rotate_left
  · simp only [Act.put, List.setIfInBounds_toArray, List.set_cons_zero, List.set_cons_succ]
    rfl
  refine qstep (N := some 10) (v := .int .i64 vs) (a' := ?_) rfl (by rfl) (fun w' _ => by go_simp) ?_ ?_
  rotate_left
  · simp only [Act.put, List.setIfInBounds_toArray, List.set_cons_zero, List.set_cons_succ]
    rfl
  refine wpQuiet_nil ?_
  intro w_ h3_
  have h3 := Aside0.mk h3_
  clear h3_
  go_upto_region 4 with (fail)
  refine region_p (C := Cls w ((w.heap.size + 1, ts, 29) :: (w.heap.size, cs, 25) :: [])) (h3.out) ?_
  refine qstep (N := some 24) (v := .agg ts) (a' := ?_) rfl (by rfl) (fun w' h => load_row (h.blk0) rfl rfl Try.underlying29 rfl (by rw [HS_ts.out]; exact info29)) ?_ ?_
  rotate_left
  · simp only [Act.put, List.setIfInBounds_toArray, List.set_cons_zero, List.set_cons_succ]
    rfl
  refine qstep (N := some 25) (v := .int .i64 issued) (a' := ?_) rfl (by rfl) (fun w' _ => by go_simp) ?_ ?_
  rotate_left
  · simp only [Act.put, List.setIfInBounds_toArray, List.set_cons_zero, List.set_cons_succ]
    rfl
  refine qcall (N := some 26) (a' := ?_) (f := 26) Try.func26 (by kernel_rfl) rfl #[.agg ts, .int .i64 issued] (by rfl) rfl rfl (by (try simp only [List.map_toArray, List.map_cons, List.map_nil]); first | done | rfl) (qcall_cls (v := .tuple #[.int .i64 va, .int .i64 vs]) H26.out) ?_ ?_
  rotate_left
  · simp only [Act.put, List.setIfInBounds_toArray, List.set_cons_zero, List.set_cons_succ]
    rfl
  refine qstep (N := some 23) (v := .tuple #[.int .i64 va, .int .i64 vs]) (a' := ?_) rfl (by rfl) (fun w' _ => by go_simp) ?_ ?_
  rotate_left
  · simp only [Act.put, List.setIfInBounds_toArray, List.set_cons_zero, List.set_cons_succ]
    rfl
  refine qstep (N := some 27) (v := .int .i64 va) (a' := ?_) rfl (by rfl) (fun w' _ => by go_simp) ?_ ?_
  rotate_left
  · simp only [Act.put, List.setIfInBounds_toArray, List.set_cons_zero, List.set_cons_succ]
    rfl
  refine qstep (N := some 28) (v := .int .i64 vs) (a' := ?_) rfl (by rfl) (fun w' _ => by go_simp) ?_ ?_
  rotate_left
  · simp only [Act.put, List.setIfInBounds_toArray, List.set_cons_zero, List.set_cons_succ]
    rfl
  refine qstep (N := some 11) (v := .int .i64 va) (a' := ?_) rfl (by rfl) (fun w' _ => by go_simp) ?_ ?_
  rotate_left
  · simp only [Act.put, List.setIfInBounds_toArray, List.set_cons_zero, List.set_cons_succ]
    rfl
  refine qstep (N := some 12) (v := .int .i64 vs) (a' := ?_) rfl (by rfl) (fun w' _ => by go_simp) ?_ ?_
  rotate_left
  · simp only [Act.put, List.setIfInBounds_toArray, List.set_cons_zero, List.set_cons_succ]
    rfl
  refine wpQuiet_nil ?_
  intro w_ h4_
  have h4 := Aside0.mk h4_
  clear h4_
  go_upto_region 5 with (fail)
  refine region_p (C := Cls w ((w.heap.size + 1, ts, 29) :: (w.heap.size, cs, 25) :: [])) (h4.out) ?_
  refine qstep (N := some 29) (v := .int .i64 va) (a' := ?_) rfl (by rfl) (fun w' _ => by go_simp) ?_ ?_
  rotate_left
  · simp only [Act.put, List.setIfInBounds_toArray, List.set_cons_zero, List.set_cons_succ]
    rfl
  refine qstep (N := some 30) (v := .int .i64 va) (a' := ?_) rfl (by rfl) (fun w' _ => by go_simp) ?_ ?_
  rotate_left
  · simp only [Act.put, List.setIfInBounds_toArray, List.set_cons_zero, List.set_cons_succ]
    rfl
  refine qstep (N := some 31) (v := .bool false) (a' := ?_) rfl (by rfl) (fun w' _ => by go_simp) ?_ ?_
  rotate_left
  · simp only [Act.put, List.setIfInBounds_toArray, List.set_cons_zero, List.set_cons_succ]
    rfl
  refine qstep (N := some 32) (v := .bool false) (a' := ?_) rfl (by rfl) (fun w' _ => by go_simp) ?_ ?_
  rotate_left
  · simp only [Act.put, List.setIfInBounds_toArray, List.set_cons_zero, List.set_cons_succ]
    rfl
  refine qstep (N := some 33) (v := .int .i64 vs) (a' := ?_) rfl (by rfl) (fun w' _ => by go_simp) ?_ ?_
  rotate_left
  · simp only [Act.put, List.setIfInBounds_toArray, List.set_cons_zero, List.set_cons_succ]
    rfl
  refine qstep (N := some 34) (v := .int .i64 vs) (a' := ?_) rfl (by rfl) (fun w' _ => by go_simp) ?_ ?_
  rotate_left
  · simp only [Act.put, List.setIfInBounds_toArray, List.set_cons_zero, List.set_cons_succ]
    rfl
  refine qstep (N := some 35) (v := .bool false) (a' := ?_) rfl (by rfl) (fun w' _ => by go_simp) ?_ ?_
  rotate_left
  · simp only [Act.put, List.setIfInBounds_toArray, List.set_cons_zero, List.set_cons_succ]
    rfl
  refine qstep (N := some 36) (v := .bool false) (a' := ?_) rfl (by rfl) (fun w' _ => by go_simp) ?_ ?_
  rotate_left
  · simp only [Act.put, List.setIfInBounds_toArray, List.set_cons_zero, List.set_cons_succ]
    rfl
  refine wpQuiet_nil ?_
  intro w_ h5_
  have h5 := Aside0.mk h5_
  clear h5_
  go_upto_region 7 with (fail)
  refine region_p (C := Cls w ((w.heap.size + 1, ts, 29) :: (w.heap.size, cs, 25) :: [])) (h5.out) ?_
  refine qstep (N := some 37) (v := .agg cs) (a' := ?_) rfl (by rfl) (fun w' h => load_row (h.blk1) rfl rfl Try.underlying25 rfl (by rw [HS_cs.out]; exact info25)) ?_ ?_
  rotate_left
  · simp only [Act.put, List.setIfInBounds_toArray, List.set_cons_zero, List.set_cons_succ]
    rfl
  refine qcall (N := some 38) (a' := ?_) (f := 22) Try.func22 (by kernel_rfl) rfl #[.agg cs] (by rfl) rfl rfl (by (try simp only [List.map_toArray, List.map_cons, List.map_nil]); first | done | rfl) (qcall_cls (v := .bool false) H22.out) ?_ ?_
  rotate_left
  · simp only [Act.put, List.setIfInBounds_toArray, List.set_cons_zero, List.set_cons_succ]
    rfl
  refine qstep (N := some 39) (v := .bool true) (a' := ?_) rfl (by rfl) (fun w' _ => by go_simp) ?_ ?_
  rotate_left
  · simp only [Act.put, List.setIfInBounds_toArray, List.set_cons_zero, List.set_cons_succ]
    rfl
  refine qstep (N := some 40) (v := .bool true) (a' := ?_) rfl (by rfl) (fun w' _ => by go_simp) ?_ ?_
  rotate_left
  · simp only [Act.put, List.setIfInBounds_toArray, List.set_cons_zero, List.set_cons_succ]
    rfl
  refine qskip (N := some 41) (a' := ?_) rfl (by rfl) ?_ ?_
  rotate_left
  · simp only [Act.put, List.setIfInBounds_toArray, List.set_cons_zero, List.set_cons_succ]
    rfl
  refine qskip (N := some 42) (a' := ?_) rfl (by rfl) ?_ ?_
  rotate_left
  · simp only [Act.put, List.setIfInBounds_toArray, List.set_cons_zero, List.set_cons_succ]
    rfl
  refine qstep (N := some 43) (v := .bool true) (a' := ?_) rfl (by rfl) (fun w' _ => by go_simp) ?_ ?_
  rotate_left
  · simp only [Act.put, List.setIfInBounds_toArray, List.set_cons_zero, List.set_cons_succ]
    rfl
  refine qstep (N := some 44) (v := .bool true) (a' := ?_) rfl (by rfl) (fun w' _ => by go_simp) ?_ ?_
  rotate_left
  · simp only [Act.put, List.setIfInBounds_toArray, List.set_cons_zero, List.set_cons_succ]
    rfl
  refine qskip (N := some 45) (a' := ?_) rfl (by rfl) ?_ ?_
  rotate_left
  · simp only [Act.put, List.setIfInBounds_toArray, List.set_cons_zero, List.set_cons_succ]
    rfl
  refine qskip (N := some 46) (a' := ?_) rfl (by rfl) ?_ ?_
  rotate_left
  · simp only [Act.put, List.setIfInBounds_toArray, List.set_cons_zero, List.set_cons_succ]
    rfl
  refine qstep (N := some 47) (v := .bool true) (a' := ?_) rfl (by rfl) (fun w' _ => by go_simp) ?_ ?_
  rotate_left
  · simp only [Act.put, List.setIfInBounds_toArray, List.set_cons_zero, List.set_cons_succ]
    rfl
  refine wpQuiet_nil ?_
  intro w_ h7_
  have h7 := Aside0.mk h7_
  clear h7_
  go_upto_region 8 with (fail)
  refine region_p (C := Cls w ((w.heap.size + 1, ts, 29) :: (w.heap.size, cs, 25) :: [])) (h7.out) ?_
  refine qcall (N := some 48) (a' := ?_) (f := 23) Try.func23 (by kernel_rfl) rfl #[] (by rfl) rfl rfl (by (try simp only [List.map_toArray, List.map_cons, List.map_nil]); first | done | rfl) (qcall_cls (v := .bool true) H23.out) ?_ ?_
  rotate_left
  · simp only [Act.put, List.setIfInBounds_toArray, List.set_cons_zero, List.set_cons_succ]
    rfl
  refine qstep (N := some 8) (v := .bool true) (a' := ?_) rfl (by rfl) (fun w' _ => by go_simp) ?_ ?_
  rotate_left
  · simp only [Act.put, List.setIfInBounds_toArray, List.set_cons_zero, List.set_cons_succ]
    rfl
  refine wpQuiet_nil ?_
  intro w_ h8_
  have h8 := Aside0.mk h8_
  clear h8_
  go_wp2
  go_ret
  exact ⟨rfl, h8.out.below⟩

set_option maxHeartbeats 4000000 in
set_option maxRecDepth 100000 in
theorem early2 (cs : Array Value) (ts : Array Value) (issued : Int) (e : Int) (cs0 cs1 cs2 cs3 cs4 cs5 cs6 cs7 cs8 cs9 cs10 cs11 cs12 cs13 cs14 cs15 cs16 cs17 ts0 ts1 ts2 : Int) (va vs : Int) (w : World) (HS_cs : Aside0 (cs.size = 18)) (HS_ts : Aside0 (ts.size = 3))
    (H24 : Aside0 (Rets Try.prog 24 #[.agg ts, .int .i64 issued] (.bool true)))
    (H25 : Aside0 (Rets Try.prog 25 #[.agg ts, .int .i64 issued] (.tuple #[.int .i64 va, .int .i64 vs])))
    (H26 : Aside0 (Rets Try.prog 26 #[.agg ts, .int .i64 issued] (.tuple #[.int .i64 va, .int .i64 vs])))
    (H22 : Aside0 (Rets Try.prog 22 #[.agg cs] (.bool true)))
    (H23 : Aside0 (Rets Try.prog 23 #[] (.bool true)))
    (P0 : Aside0 (e < 0)) :
    Calls Try.prog 4 #[.agg cs, .agg ts, .int .i64 issued, .int .i64 e] w fun e w' => e = .returned (.bool true) ∧ Below w.heap.size w w' := by
  have HCl : Aside0 (Cls w ((w.heap.size + 1, ts, 29) :: (w.heap.size, cs, 25) :: []) ((w.alloc (.cells cs 25 (0, 0))).alloc (.cells ts 29 (0, 0)))) := ⟨Cls.put2 w _ _ _ _⟩
  go_enter Try.func4, Try.ntmps4
  go_upto_region 1 with (fail)
  refine region_p (C := Cls w ((w.heap.size + 1, ts, 29) :: (w.heap.size, cs, 25) :: [])) (HCl.out) ?_
  refine qstep (N := some 13) (v := .agg ts) (a' := ?_) rfl (by rfl) (fun w' h => load_row (h.blk0) rfl rfl Try.underlying29 rfl (by rw [HS_ts.out]; exact info29)) ?_ ?_
  rotate_left
  · simp only [Act.put, List.setIfInBounds_toArray, List.set_cons_zero, List.set_cons_succ]
    rfl
  refine qstep (N := some 14) (v := .int .i64 issued) (a' := ?_) rfl (by rfl) (fun w' _ => by go_simp) ?_ ?_
  rotate_left
  · simp only [Act.put, List.setIfInBounds_toArray, List.set_cons_zero, List.set_cons_succ]
    rfl
  refine qcall (N := some 15) (a' := ?_) (f := 24) Try.func24 (by kernel_rfl) rfl #[.agg ts, .int .i64 issued] (by rfl) rfl rfl (by (try simp only [List.map_toArray, List.map_cons, List.map_nil]); first | done | rfl) (qcall_cls (v := .bool true) H24.out) ?_ ?_
  rotate_left
  · simp only [Act.put, List.setIfInBounds_toArray, List.set_cons_zero, List.set_cons_succ]
    rfl
  refine qstep (N := some 16) (v := .bool false) (a' := ?_) rfl (by rfl) (fun w' _ => by go_simp) ?_ ?_
  rotate_left
  · simp only [Act.put, List.setIfInBounds_toArray, List.set_cons_zero, List.set_cons_succ]
    rfl
  refine wpQuiet_nil ?_
  intro w_ h1_
  have h1 := Aside0.mk h1_
  clear h1_
  go_upto_region 3 with (fail)
  refine region_p (C := Cls w ((w.heap.size + 1, ts, 29) :: (w.heap.size, cs, 25) :: [])) (h1.out) ?_
  refine qstep (N := some 18) (v := .agg ts) (a' := ?_) rfl (by rfl) (fun w' h => load_row (h.blk0) rfl rfl Try.underlying29 rfl (by rw [HS_ts.out]; exact info29)) ?_ ?_
  rotate_left
  · simp only [Act.put, List.setIfInBounds_toArray, List.set_cons_zero, List.set_cons_succ]
    rfl
  refine qstep (N := some 19) (v := .int .i64 issued) (a' := ?_) rfl (by rfl) (fun w' _ => by go_simp) ?_ ?_
  rotate_left
  · simp only [Act.put, List.setIfInBounds_toArray, List.set_cons_zero, List.set_cons_succ]
    rfl
  refine qcall (N := some 20) (a' := ?_) (f := 25) Try.func25 (by kernel_rfl) rfl #[.agg ts, .int .i64 issued] (by rfl) rfl rfl (by (try simp only [List.map_toArray, List.map_cons, List.map_nil]); first | done | rfl) (qcall_cls (v := .tuple #[.int .i64 va, .int .i64 vs]) H25.out) ?_ ?_
  rotate_left
  · simp only [Act.put, List.setIfInBounds_toArray, List.set_cons_zero, List.set_cons_succ]
    rfl
  refine qstep (N := some 17) (v := .tuple #[.int .i64 va, .int .i64 vs]) (a' := ?_) rfl (by rfl) (fun w' _ => by go_simp) ?_ ?_
  rotate_left
  · simp only [Act.put, List.setIfInBounds_toArray, List.set_cons_zero, List.set_cons_succ]
    rfl
  refine qstep (N := some 21) (v := .int .i64 va) (a' := ?_) rfl (by rfl) (fun w' _ => by go_simp) ?_ ?_
  rotate_left
  · simp only [Act.put, List.setIfInBounds_toArray, List.set_cons_zero, List.set_cons_succ]
    rfl
  refine qstep (N := some 22) (v := .int .i64 vs) (a' := ?_) rfl (by rfl) (fun w' _ => by go_simp) ?_ ?_
  rotate_left
  · simp only [Act.put, List.setIfInBounds_toArray, List.set_cons_zero, List.set_cons_succ]
    rfl
  refine qstep (N := some 9) (v := .int .i64 va) (a' := ?_) rfl (by rfl) (fun w' _ => by go_simp) ?_ ?_
  rotate_left
  · simp only [Act.put, List.setIfInBounds_toArray, List.set_cons_zero, List.set_cons_succ]
    rfl
  refine qstep (N := some 10) (v := .int .i64 vs) (a' := ?_) rfl (by rfl) (fun w' _ => by go_simp) ?_ ?_
  rotate_left
  · simp only [Act.put, List.setIfInBounds_toArray, List.set_cons_zero, List.set_cons_succ]
    rfl
  refine wpQuiet_nil ?_
  intro w_ h3_
  have h3 := Aside0.mk h3_
  clear h3_
  go_upto_region 4 with (fail)
  refine region_p (C := Cls w ((w.heap.size + 1, ts, 29) :: (w.heap.size, cs, 25) :: [])) (h3.out) ?_
  refine qstep (N := some 24) (v := .agg ts) (a' := ?_) rfl (by rfl) (fun w' h => load_row (h.blk0) rfl rfl Try.underlying29 rfl (by rw [HS_ts.out]; exact info29)) ?_ ?_
  rotate_left
  · simp only [Act.put, List.setIfInBounds_toArray, List.set_cons_zero, List.set_cons_succ]
    rfl
  refine qstep (N := some 25) (v := .int .i64 issued) (a' := ?_) rfl (by rfl) (fun w' _ => by go_simp) ?_ ?_
  rotate_left
  · simp only [Act.put, List.setIfInBounds_toArray, List.set_cons_zero, List.set_cons_succ]
    rfl
  refine qcall (N := some 26) (a' := ?_) (f := 26) Try.func26 (by kernel_rfl) rfl #[.agg ts, .int .i64 issued] (by rfl) rfl rfl (by (try simp only [List.map_toArray, List.map_cons, List.map_nil]); first | done | rfl) (qcall_cls (v := .tuple #[.int .i64 va, .int .i64 vs]) H26.out) ?_ ?_
  rotate_left
  · simp only [Act.put, List.setIfInBounds_toArray, List.set_cons_zero, List.set_cons_succ]
    rfl
  refine qstep (N := some 23) (v := .tuple #[.int .i64 va, .int .i64 vs]) (a' := ?_) rfl (by rfl) (fun w' _ => by go_simp) ?_ ?_
  rotate_left
  · simp only [Act.put, List.setIfInBounds_toArray, List.set_cons_zero, List.set_cons_succ]
    rfl
  refine qstep (N := some 27) (v := .int .i64 va) (a' := ?_) rfl (by rfl) (fun w' _ => by go_simp) ?_ ?_
  rotate_left
  · simp only [Act.put, List.setIfInBounds_toArray, List.set_cons_zero, List.set_cons_succ]
    rfl
  refine qstep (N := some 28) (v := .int .i64 vs) (a' := ?_) rfl (by rfl) (fun w' _ => by go_simp) ?_ ?_
  rotate_left
  · simp only [Act.put, List.setIfInBounds_toArray, List.set_cons_zero, List.set_cons_succ]
    rfl
  refine qstep (N := some 11) (v := .int .i64 va) (a' := ?_) rfl (by rfl) (fun w' _ => by go_simp) ?_ ?_
  rotate_left
  · simp only [Act.put, List.setIfInBounds_toArray, List.set_cons_zero, List.set_cons_succ]
    rfl
  refine qstep (N := some 12) (v := .int .i64 vs) (a' := ?_) rfl (by rfl) (fun w' _ => by go_simp) ?_ ?_
  rotate_left
  · simp only [Act.put, List.setIfInBounds_toArray, List.set_cons_zero, List.set_cons_succ]
    rfl
  refine wpQuiet_nil ?_
  intro w_ h4_
  have h4 := Aside0.mk h4_
  clear h4_
  go_upto_region 5 with (fail)
  refine region_p (C := Cls w ((w.heap.size + 1, ts, 29) :: (w.heap.size, cs, 25) :: [])) (h4.out) ?_
  refine qstep (N := some 29) (v := .int .i64 va) (a' := ?_) rfl (by rfl) (fun w' _ => by go_simp) ?_ ?_
  rotate_left
  · simp only [Act.put, List.setIfInBounds_toArray, List.set_cons_zero, List.set_cons_succ]
    rfl
  refine qstep (N := some 30) (v := .int .i64 va) (a' := ?_) rfl (by rfl) (fun w' _ => by go_simp) ?_ ?_
  rotate_left
  · simp only [Act.put, List.setIfInBounds_toArray, List.set_cons_zero, List.set_cons_succ]
    rfl
  refine qstep (N := some 31) (v := .bool false) (a' := ?_) rfl (by rfl) (fun w' _ => by go_simp) ?_ ?_
  rotate_left
  · simp only [Act.put, List.setIfInBounds_toArray, List.set_cons_zero, List.set_cons_succ]
    rfl
  refine qstep (N := some 32) (v := .bool false) (a' := ?_) rfl (by rfl) (fun w' _ => by go_simp) ?_ ?_
  rotate_left
  · simp only [Act.put, List.setIfInBounds_toArray, List.set_cons_zero, List.set_cons_succ]
    rfl
  refine qstep (N := some 33) (v := .int .i64 vs) (a' := ?_) rfl (by rfl) (fun w' _ => by go_simp) ?_ ?_
  rotate_left
  · simp only [Act.put, List.setIfInBounds_toArray, List.set_cons_zero, List.set_cons_succ]
    rfl
  refine qstep (N := some 34) (v := .int .i64 vs) (a' := ?_) rfl (by rfl) (fun w' _ => by go_simp) ?_ ?_
  rotate_left
  · simp only [Act.put, List.setIfInBounds_toArray, List.set_cons_zero, List.set_cons_succ]
    rfl
  refine qstep (N := some 35) (v := .bool false) (a' := ?_) rfl (by rfl) (fun w' _ => by go_simp) ?_ ?_
  rotate_left
  · simp only [Act.put, List.setIfInBounds_toArray, List.set_cons_zero, List.set_cons_succ]
    rfl
  refine qstep (N := some 36) (v := .bool false) (a' := ?_) rfl (by rfl) (fun w' _ => by go_simp) ?_ ?_
  rotate_left
  · simp only [Act.put, List.setIfInBounds_toArray, List.set_cons_zero, List.set_cons_succ]
    rfl
  refine wpQuiet_nil ?_
  intro w_ h5_
  have h5 := Aside0.mk h5_
  clear h5_
  go_upto_region 7 with (fail)
  refine region_p (C := Cls w ((w.heap.size + 1, ts, 29) :: (w.heap.size, cs, 25) :: [])) (h5.out) ?_
  refine qstep (N := some 37) (v := .agg cs) (a' := ?_) rfl (by rfl) (fun w' h => load_row (h.blk1) rfl rfl Try.underlying25 rfl (by rw [HS_cs.out]; exact info25)) ?_ ?_
  rotate_left
  · simp only [Act.put, List.setIfInBounds_toArray, List.set_cons_zero, List.set_cons_succ]
    rfl
  refine qcall (N := some 38) (a' := ?_) (f := 22) Try.func22 (by kernel_rfl) rfl #[.agg cs] (by rfl) rfl rfl (by (try simp only [List.map_toArray, List.map_cons, List.map_nil]); first | done | rfl) (qcall_cls (v := .bool true) H22.out) ?_ ?_
  rotate_left
  · simp only [Act.put, List.setIfInBounds_toArray, List.set_cons_zero, List.set_cons_succ]
    rfl
  refine qstep (N := some 39) (v := .bool false) (a' := ?_) rfl (by rfl) (fun w' _ => by go_simp) ?_ ?_
  rotate_left
  · simp only [Act.put, List.setIfInBounds_toArray, List.set_cons_zero, List.set_cons_succ]
    rfl
  refine qstep (N := some 40) (v := .bool false) (a' := ?_) rfl (by rfl) (fun w' _ => by go_simp) ?_ ?_
  rotate_left
  · simp only [Act.put, List.setIfInBounds_toArray, List.set_cons_zero, List.set_cons_succ]
    rfl
  refine qstep (N := some 41) (v := .int .i64 e) (a' := ?_) rfl (by rfl) (fun w' _ => by go_simp) ?_ ?_
  rotate_left
  · simp only [Act.put, List.setIfInBounds_toArray, List.set_cons_zero, List.set_cons_succ]
    rfl
  refine qstep (N := some 42) (v := .bool true) (a' := ?_) rfl (by rfl) (fun w' _ => by go_simp; (try simp only [i64_w]); first | exact P0.out | (have h_ := P0.out; omega) | exact cmp_ P0.out | exact cmpd_ P0.out | exact cmpf_ P0.out) ?_ ?_
  rotate_left
  · simp only [Act.put, List.setIfInBounds_toArray, List.set_cons_zero, List.set_cons_succ]
    rfl
  refine qstep (N := some 43) (v := .bool true) (a' := ?_) rfl (by rfl) (fun w' _ => by go_simp) ?_ ?_
  rotate_left
  · simp only [Act.put, List.setIfInBounds_toArray, List.set_cons_zero, List.set_cons_succ]
    rfl
  refine qstep (N := some 44) (v := .bool true) (a' := ?_) rfl (by rfl) (fun w' _ => by go_simp) ?_ ?_
  rotate_left
  · simp only [Act.put, List.setIfInBounds_toArray, List.set_cons_zero, List.set_cons_succ]
    rfl
  refine qskip (N := some 45) (a' := ?_) rfl (by rfl) ?_ ?_
  rotate_left
  · simp only [Act.put, List.setIfInBounds_toArray, List.set_cons_zero, List.set_cons_succ]
    rfl
  refine qskip (N := some 46) (a' := ?_) rfl (by rfl) ?_ ?_
  rotate_left
  · simp only [Act.put, List.setIfInBounds_toArray, List.set_cons_zero, List.set_cons_succ]
    rfl
  refine qstep (N := some 47) (v := .bool true) (a' := ?_) rfl (by rfl) (fun w' _ => by go_simp) ?_ ?_
  rotate_left
  · simp only [Act.put, List.setIfInBounds_toArray, List.set_cons_zero, List.set_cons_succ]
    rfl
  refine wpQuiet_nil ?_
  intro w_ h7_
  have h7 := Aside0.mk h7_
  clear h7_
  go_upto_region 8 with (fail)
  refine region_p (C := Cls w ((w.heap.size + 1, ts, 29) :: (w.heap.size, cs, 25) :: [])) (h7.out) ?_
  refine qcall (N := some 48) (a' := ?_) (f := 23) Try.func23 (by kernel_rfl) rfl #[] (by rfl) rfl rfl (by (try simp only [List.map_toArray, List.map_cons, List.map_nil]); first | done | rfl) (qcall_cls (v := .bool true) H23.out) ?_ ?_
  rotate_left
  · simp only [Act.put, List.setIfInBounds_toArray, List.set_cons_zero, List.set_cons_succ]
    rfl
  refine qstep (N := some 8) (v := .bool true) (a' := ?_) rfl (by rfl) (fun w' _ => by go_simp) ?_ ?_
  rotate_left
  · simp only [Act.put, List.setIfInBounds_toArray, List.set_cons_zero, List.set_cons_succ]
    rfl
  refine wpQuiet_nil ?_
  intro w_ h8_
  have h8 := Aside0.mk h8_
  clear h8_
  go_wp2
  go_ret
  exact ⟨rfl, h8.out.below⟩

set_option maxHeartbeats 4000000 in
set_option maxRecDepth 100000 in
theorem early3 (cs : Array Value) (ts : Array Value) (issued : Int) (e : Int) (cs0 cs1 cs2 cs3 cs4 cs5 cs6 cs7 cs8 cs9 cs10 cs11 cs12 cs13 cs14 cs15 cs16 cs17 ts0 ts1 ts2 : Int) (va vs : Int) (w : World) (HS_cs : Aside0 (cs.size = 18)) (HS_ts : Aside0 (ts.size = 3))
    (H24 : Aside0 (Rets Try.prog 24 #[.agg ts, .int .i64 issued] (.bool true)))
    (H25 : Aside0 (Rets Try.prog 25 #[.agg ts, .int .i64 issued] (.tuple #[.int .i64 va, .int .i64 vs])))
    (H26 : Aside0 (Rets Try.prog 26 #[.agg ts, .int .i64 issued] (.tuple #[.int .i64 va, .int .i64 vs])))
    (H22 : Aside0 (Rets Try.prog 22 #[.agg cs] (.bool true)))
    (H23 : Aside0 (Rets Try.prog 23 #[] (.bool true)))
    (P0 : Aside0 (¬ (e < 0)))
    (P1 : Aside0 (e > 1073741824)) :
    Calls Try.prog 4 #[.agg cs, .agg ts, .int .i64 issued, .int .i64 e] w fun e w' => e = .returned (.bool true) ∧ Below w.heap.size w w' := by
  have HCl : Aside0 (Cls w ((w.heap.size + 1, ts, 29) :: (w.heap.size, cs, 25) :: []) ((w.alloc (.cells cs 25 (0, 0))).alloc (.cells ts 29 (0, 0)))) := ⟨Cls.put2 w _ _ _ _⟩
  go_enter Try.func4, Try.ntmps4
  go_upto_region 1 with (fail)
  refine region_p (C := Cls w ((w.heap.size + 1, ts, 29) :: (w.heap.size, cs, 25) :: [])) (HCl.out) ?_
  refine qstep (N := some 13) (v := .agg ts) (a' := ?_) rfl (by rfl) (fun w' h => load_row (h.blk0) rfl rfl Try.underlying29 rfl (by rw [HS_ts.out]; exact info29)) ?_ ?_
  rotate_left
  · simp only [Act.put, List.setIfInBounds_toArray, List.set_cons_zero, List.set_cons_succ]
    rfl
  refine qstep (N := some 14) (v := .int .i64 issued) (a' := ?_) rfl (by rfl) (fun w' _ => by go_simp) ?_ ?_
  rotate_left
  · simp only [Act.put, List.setIfInBounds_toArray, List.set_cons_zero, List.set_cons_succ]
    rfl
  refine qcall (N := some 15) (a' := ?_) (f := 24) Try.func24 (by kernel_rfl) rfl #[.agg ts, .int .i64 issued] (by rfl) rfl rfl (by (try simp only [List.map_toArray, List.map_cons, List.map_nil]); first | done | rfl) (qcall_cls (v := .bool true) H24.out) ?_ ?_
  rotate_left
  · simp only [Act.put, List.setIfInBounds_toArray, List.set_cons_zero, List.set_cons_succ]
    rfl
  refine qstep (N := some 16) (v := .bool false) (a' := ?_) rfl (by rfl) (fun w' _ => by go_simp) ?_ ?_
  rotate_left
  · simp only [Act.put, List.setIfInBounds_toArray, List.set_cons_zero, List.set_cons_succ]
    rfl
  refine wpQuiet_nil ?_
  intro w_ h1_
  have h1 := Aside0.mk h1_
  clear h1_
  go_upto_region 3 with (fail)
  refine region_p (C := Cls w ((w.heap.size + 1, ts, 29) :: (w.heap.size, cs, 25) :: [])) (h1.out) ?_
  refine qstep (N := some 18) (v := .agg ts) (a' := ?_) rfl (by rfl) (fun w' h => load_row (h.blk0) rfl rfl Try.underlying29 rfl (by rw [HS_ts.out]; exact info29)) ?_ ?_
  rotate_left
  · simp only [Act.put, List.setIfInBounds_toArray, List.set_cons_zero, List.set_cons_succ]
    rfl
  refine qstep (N := some 19) (v := .int .i64 issued) (a' := ?_) rfl (by rfl) (fun w' _ => by go_simp) ?_ ?_
  rotate_left
  · simp only [Act.put, List.setIfInBounds_toArray, List.set_cons_zero, List.set_cons_succ]
    rfl
  refine qcall (N := some 20) (a' := ?_) (f := 25) Try.func25 (by kernel_rfl) rfl #[.agg ts, .int .i64 issued] (by rfl) rfl rfl (by (try simp only [List.map_toArray, List.map_cons, List.map_nil]); first | done | rfl) (qcall_cls (v := .tuple #[.int .i64 va, .int .i64 vs]) H25.out) ?_ ?_
  rotate_left
  · simp only [Act.put, List.setIfInBounds_toArray, List.set_cons_zero, List.set_cons_succ]
    rfl
  refine qstep (N := some 17) (v := .tuple #[.int .i64 va, .int .i64 vs]) (a' := ?_) rfl (by rfl) (fun w' _ => by go_simp) ?_ ?_
  rotate_left
  · simp only [Act.put, List.setIfInBounds_toArray, List.set_cons_zero, List.set_cons_succ]
    rfl
  refine qstep (N := some 21) (v := .int .i64 va) (a' := ?_) rfl (by rfl) (fun w' _ => by go_simp) ?_ ?_
  rotate_left
  · simp only [Act.put, List.setIfInBounds_toArray, List.set_cons_zero, List.set_cons_succ]
    rfl
  refine qstep (N := some 22) (v := .int .i64 vs) (a' := ?_) rfl (by rfl) (fun w' _ => by go_simp) ?_ ?_
  rotate_left
  · simp only [Act.put, List.setIfInBounds_toArray, List.set_cons_zero, List.set_cons_succ]
    rfl
  refine qstep (N := some 9) (v := .int .i64 va) (a' := ?_) rfl (by rfl) (fun w' _ => by go_simp) ?_ ?_
  rotate_left
  · simp only [Act.put, List.setIfInBounds_toArray, List.set_cons_zero, List.set_cons_succ]
    rfl
  refine qstep (N := some 10) (v := .int .i64 vs) (a' := ?_) rfl (by rfl) (fun w' _ => by go_simp) ?_ ?_
  rotate_left
  · simp only [Act.put, List.setIfInBounds_toArray, List.set_cons_zero, List.set_cons_succ]
    rfl
  refine wpQuiet_nil ?_
  intro w_ h3_
  have h3 := Aside0.mk h3_
  clear h3_
  go_upto_region 4 with (fail)
  refine region_p (C := Cls w ((w.heap.size + 1, ts, 29) :: (w.heap.size, cs, 25) :: [])) (h3.out) ?_
  refine qstep (N := some 24) (v := .agg ts) (a' := ?_) rfl (by rfl) (fun w' h => load_row (h.blk0) rfl rfl Try.underlying29 rfl (by rw [HS_ts.out]; exact info29)) ?_ ?_
  rotate_left
  · simp only [Act.put, List.setIfInBounds_toArray, List.set_cons_zero, List.set_cons_succ]
    rfl
  refine qstep (N := some 25) (v := .int .i64 issued) (a' := ?_) rfl (by rfl) (fun w' _ => by go_simp) ?_ ?_
  rotate_left
  · simp only [Act.put, List.setIfInBounds_toArray, List.set_cons_zero, List.set_cons_succ]
    rfl
  refine qcall (N := some 26) (a' := ?_) (f := 26) Try.func26 (by kernel_rfl) rfl #[.agg ts, .int .i64 issued] (by rfl) rfl rfl (by (try simp only [List.map_toArray, List.map_cons, List.map_nil]); first | done | rfl) (qcall_cls (v := .tuple #[.int .i64 va, .int .i64 vs]) H26.out) ?_ ?_
  rotate_left
  · simp only [Act.put, List.setIfInBounds_toArray, List.set_cons_zero, List.set_cons_succ]
    rfl
  refine qstep (N := some 23) (v := .tuple #[.int .i64 va, .int .i64 vs]) (a' := ?_) rfl (by rfl) (fun w' _ => by go_simp) ?_ ?_
  rotate_left
  · simp only [Act.put, List.setIfInBounds_toArray, List.set_cons_zero, List.set_cons_succ]
    rfl
  refine qstep (N := some 27) (v := .int .i64 va) (a' := ?_) rfl (by rfl) (fun w' _ => by go_simp) ?_ ?_
  rotate_left
  · simp only [Act.put, List.setIfInBounds_toArray, List.set_cons_zero, List.set_cons_succ]
    rfl
  refine qstep (N := some 28) (v := .int .i64 vs) (a' := ?_) rfl (by rfl) (fun w' _ => by go_simp) ?_ ?_
  rotate_left
  · simp only [Act.put, List.setIfInBounds_toArray, List.set_cons_zero, List.set_cons_succ]
    rfl
  refine qstep (N := some 11) (v := .int .i64 va) (a' := ?_) rfl (by rfl) (fun w' _ => by go_simp) ?_ ?_
  rotate_left
  · simp only [Act.put, List.setIfInBounds_toArray, List.set_cons_zero, List.set_cons_succ]
    rfl
  refine qstep (N := some 12) (v := .int .i64 vs) (a' := ?_) rfl (by rfl) (fun w' _ => by go_simp) ?_ ?_
  rotate_left
  · simp only [Act.put, List.setIfInBounds_toArray, List.set_cons_zero, List.set_cons_succ]
    rfl
  refine wpQuiet_nil ?_
  intro w_ h4_
  have h4 := Aside0.mk h4_
  clear h4_
  go_upto_region 5 with (fail)
  refine region_p (C := Cls w ((w.heap.size + 1, ts, 29) :: (w.heap.size, cs, 25) :: [])) (h4.out) ?_
  refine qstep (N := some 29) (v := .int .i64 va) (a' := ?_) rfl (by rfl) (fun w' _ => by go_simp) ?_ ?_
  rotate_left
  · simp only [Act.put, List.setIfInBounds_toArray, List.set_cons_zero, List.set_cons_succ]
    rfl
  refine qstep (N := some 30) (v := .int .i64 va) (a' := ?_) rfl (by rfl) (fun w' _ => by go_simp) ?_ ?_
  rotate_left
  · simp only [Act.put, List.setIfInBounds_toArray, List.set_cons_zero, List.set_cons_succ]
    rfl
  refine qstep (N := some 31) (v := .bool false) (a' := ?_) rfl (by rfl) (fun w' _ => by go_simp) ?_ ?_
  rotate_left
  · simp only [Act.put, List.setIfInBounds_toArray, List.set_cons_zero, List.set_cons_succ]
    rfl
  refine qstep (N := some 32) (v := .bool false) (a' := ?_) rfl (by rfl) (fun w' _ => by go_simp) ?_ ?_
  rotate_left
  · simp only [Act.put, List.setIfInBounds_toArray, List.set_cons_zero, List.set_cons_succ]
    rfl
  refine qstep (N := some 33) (v := .int .i64 vs) (a' := ?_) rfl (by rfl) (fun w' _ => by go_simp) ?_ ?_
  rotate_left
  · simp only [Act.put, List.setIfInBounds_toArray, List.set_cons_zero, List.set_cons_succ]
    rfl
  refine qstep (N := some 34) (v := .int .i64 vs) (a' := ?_) rfl (by rfl) (fun w' _ => by go_simp) ?_ ?_
  rotate_left
  · simp only [Act.put, List.setIfInBounds_toArray, List.set_cons_zero, List.set_cons_succ]
    rfl
  refine qstep (N := some 35) (v := .bool false) (a' := ?_) rfl (by rfl) (fun w' _ => by go_simp) ?_ ?_
  rotate_left
  · simp only [Act.put, List.setIfInBounds_toArray, List.set_cons_zero, List.set_cons_succ]
    rfl
  refine qstep (N := some 36) (v := .bool false) (a' := ?_) rfl (by rfl) (fun w' _ => by go_simp) ?_ ?_
  rotate_left
  · simp only [Act.put, List.setIfInBounds_toArray, List.set_cons_zero, List.set_cons_succ]
    rfl
  refine wpQuiet_nil ?_
  intro w_ h5_
  have h5 := Aside0.mk h5_
  clear h5_
  go_upto_region 7 with (fail)
  refine region_p (C := Cls w ((w.heap.size + 1, ts, 29) :: (w.heap.size, cs, 25) :: [])) (h5.out) ?_
  refine qstep (N := some 37) (v := .agg cs) (a' := ?_) rfl (by rfl) (fun w' h => load_row (h.blk1) rfl rfl Try.underlying25 rfl (by rw [HS_cs.out]; exact info25)) ?_ ?_
  rotate_left
  · simp only [Act.put, List.setIfInBounds_toArray, List.set_cons_zero, List.set_cons_succ]
    rfl
  refine qcall (N := some 38) (a' := ?_) (f := 22) Try.func22 (by kernel_rfl) rfl #[.agg cs] (by rfl) rfl rfl (by (try simp only [List.map_toArray, List.map_cons, List.map_nil]); first | done | rfl) (qcall_cls (v := .bool true) H22.out) ?_ ?_
  rotate_left
  · simp only [Act.put, List.setIfInBounds_toArray, List.set_cons_zero, List.set_cons_succ]
    rfl
  refine qstep (N := some 39) (v := .bool false) (a' := ?_) rfl (by rfl) (fun w' _ => by go_simp) ?_ ?_
  rotate_left
  · simp only [Act.put, List.setIfInBounds_toArray, List.set_cons_zero, List.set_cons_succ]
    rfl
  refine qstep (N := some 40) (v := .bool false) (a' := ?_) rfl (by rfl) (fun w' _ => by go_simp) ?_ ?_
  rotate_left
  · simp only [Act.put, List.setIfInBounds_toArray, List.set_cons_zero, List.set_cons_succ]
    rfl
  refine qstep (N := some 41) (v := .int .i64 e) (a' := ?_) rfl (by rfl) (fun w' _ => by go_simp) ?_ ?_
  rotate_left
  · simp only [Act.put, List.setIfInBounds_toArray, List.set_cons_zero, List.set_cons_succ]
    rfl
  refine qstep (N := some 42) (v := .bool false) (a' := ?_) rfl (by rfl) (fun w' _ => by go_simp; (try simp only [i64_w]); first | exact P0.out | (have h_ := P0.out; omega) | exact cmp_ P0.out | exact cmpd_ P0.out | exact cmpf_ P0.out) ?_ ?_
  rotate_left
  · simp only [Act.put, List.setIfInBounds_toArray, List.set_cons_zero, List.set_cons_succ]
    rfl
  refine qstep (N := some 43) (v := .bool false) (a' := ?_) rfl (by rfl) (fun w' _ => by go_simp) ?_ ?_
  rotate_left
  · simp only [Act.put, List.setIfInBounds_toArray, List.set_cons_zero, List.set_cons_succ]
    rfl
  refine qstep (N := some 44) (v := .bool false) (a' := ?_) rfl (by rfl) (fun w' _ => by go_simp) ?_ ?_
  rotate_left
  · simp only [Act.put, List.setIfInBounds_toArray, List.set_cons_zero, List.set_cons_succ]
    rfl
  refine qstep (N := some 45) (v := .int .i64 e) (a' := ?_) rfl (by rfl) (fun w' _ => by go_simp) ?_ ?_
  rotate_left
  · simp only [Act.put, List.setIfInBounds_toArray, List.set_cons_zero, List.set_cons_succ]
    rfl
  refine qstep (N := some 46) (v := .bool true) (a' := ?_) rfl (by rfl) (fun w' _ => by go_simp; (try simp only [i64_w]); first | exact P1.out | (have h_ := P1.out; omega) | exact cmp_ P1.out | exact cmpd_ P1.out | exact cmpf_ P1.out) ?_ ?_
  rotate_left
  · simp only [Act.put, List.setIfInBounds_toArray, List.set_cons_zero, List.set_cons_succ]
    rfl
  refine qstep (N := some 47) (v := .bool true) (a' := ?_) rfl (by rfl) (fun w' _ => by go_simp) ?_ ?_
  rotate_left
  · simp only [Act.put, List.setIfInBounds_toArray, List.set_cons_zero, List.set_cons_succ]
    rfl
  refine wpQuiet_nil ?_
  intro w_ h7_
  have h7 := Aside0.mk h7_
  clear h7_
  go_upto_region 8 with (fail)
  refine region_p (C := Cls w ((w.heap.size + 1, ts, 29) :: (w.heap.size, cs, 25) :: [])) (h7.out) ?_
  refine qcall (N := some 48) (a' := ?_) (f := 23) Try.func23 (by kernel_rfl) rfl #[] (by rfl) rfl rfl (by (try simp only [List.map_toArray, List.map_cons, List.map_nil]); first | done | rfl) (qcall_cls (v := .bool true) H23.out) ?_ ?_
  rotate_left
  · simp only [Act.put, List.setIfInBounds_toArray, List.set_cons_zero, List.set_cons_succ]
    rfl
  refine qstep (N := some 8) (v := .bool true) (a' := ?_) rfl (by rfl) (fun w' _ => by go_simp) ?_ ?_
  rotate_left
  · simp only [Act.put, List.setIfInBounds_toArray, List.set_cons_zero, List.set_cons_succ]
    rfl
  refine wpQuiet_nil ?_
  intro w_ h8_
  have h8 := Aside0.mk h8_
  clear h8_
  go_wp2
  go_ret
  exact ⟨rfl, h8.out.below⟩

set_option maxHeartbeats 4000000 in
set_option maxRecDepth 100000 in
theorem main (cs : Array Value) (ts : Array Value) (issued : Int) (e : Int) (cs0 cs1 cs2 cs3 cs4 cs5 cs6 cs7 cs8 cs9 cs10 cs11 cs12 cs13 cs14 cs15 cs16 cs17 ts0 ts1 ts2 : Int) (va vs : Int) (r : Bool) (w : World) (HS_cs : Aside0 (cs.size = 18)) (HS_ts : Aside0 (ts.size = 3))
    (H24 : Aside0 (Rets Try.prog 24 #[.agg ts, .int .i64 issued] (.bool true)))
    (H25 : Aside0 (Rets Try.prog 25 #[.agg ts, .int .i64 issued] (.tuple #[.int .i64 va, .int .i64 vs])))
    (H26 : Aside0 (Rets Try.prog 26 #[.agg ts, .int .i64 issued] (.tuple #[.int .i64 va, .int .i64 vs])))
    (H22 : Aside0 (Rets Try.prog 22 #[.agg cs] (.bool true)))
    (H23 : Aside0 (Rets Try.prog 23 #[] (.bool true)))
    (H27 : Aside0 (Rets Try.prog 27 #[.agg cs, .agg ts, .int .i64 issued, .int .i64 e] (.bool r)))
    (H28 : Aside0 (Rets Try.prog 28 #[.agg cs, .agg ts, .int .i64 issued, .int .i64 e] (.bool r)))
    (P0 : Aside0 (¬ (e < 0)))
    (P1 : Aside0 (¬ (e > 1073741824))) :
    Calls Try.prog 4 #[.agg cs, .agg ts, .int .i64 issued, .int .i64 e] w fun e w' => e = .returned (.bool true) ∧ Below w.heap.size w w' := by
  have HCl : Aside0 (Cls w ((w.heap.size + 1, ts, 29) :: (w.heap.size, cs, 25) :: []) ((w.alloc (.cells cs 25 (0, 0))).alloc (.cells ts 29 (0, 0)))) := ⟨Cls.put2 w _ _ _ _⟩
  go_enter Try.func4, Try.ntmps4
  go_upto_region 1 with (fail)
  refine region_p (C := Cls w ((w.heap.size + 1, ts, 29) :: (w.heap.size, cs, 25) :: [])) (HCl.out) ?_
  refine qstep (N := some 13) (v := .agg ts) (a' := ?_) rfl (by rfl) (fun w' h => load_row (h.blk0) rfl rfl Try.underlying29 rfl (by rw [HS_ts.out]; exact info29)) ?_ ?_
  rotate_left
  · simp only [Act.put, List.setIfInBounds_toArray, List.set_cons_zero, List.set_cons_succ]
    rfl
  refine qstep (N := some 14) (v := .int .i64 issued) (a' := ?_) rfl (by rfl) (fun w' _ => by go_simp) ?_ ?_
  rotate_left
  · simp only [Act.put, List.setIfInBounds_toArray, List.set_cons_zero, List.set_cons_succ]
    rfl
  refine qcall (N := some 15) (a' := ?_) (f := 24) Try.func24 (by kernel_rfl) rfl #[.agg ts, .int .i64 issued] (by rfl) rfl rfl (by (try simp only [List.map_toArray, List.map_cons, List.map_nil]); first | done | rfl) (qcall_cls (v := .bool true) H24.out) ?_ ?_
  rotate_left
  · simp only [Act.put, List.setIfInBounds_toArray, List.set_cons_zero, List.set_cons_succ]
    rfl
  refine qstep (N := some 16) (v := .bool false) (a' := ?_) rfl (by rfl) (fun w' _ => by go_simp) ?_ ?_
  rotate_left
  · simp only [Act.put, List.setIfInBounds_toArray, List.set_cons_zero, List.set_cons_succ]
    rfl
  refine wpQuiet_nil ?_
  intro w_ h1_
  have h1 := Aside0.mk h1_
  clear h1_
  go_upto_region 3 with (fail)
  refine region_p (C := Cls w ((w.heap.size + 1, ts, 29) :: (w.heap.size, cs, 25) :: [])) (h1.out) ?_
  refine qstep (N := some 18) (v := .agg ts) (a' := ?_) rfl (by rfl) (fun w' h => load_row (h.blk0) rfl rfl Try.underlying29 rfl (by rw [HS_ts.out]; exact info29)) ?_ ?_
  rotate_left
  · simp only [Act.put, List.setIfInBounds_toArray, List.set_cons_zero, List.set_cons_succ]
    rfl
  refine qstep (N := some 19) (v := .int .i64 issued) (a' := ?_) rfl (by rfl) (fun w' _ => by go_simp) ?_ ?_
  rotate_left
  · simp only [Act.put, List.setIfInBounds_toArray, List.set_cons_zero, List.set_cons_succ]
    rfl
  refine qcall (N := some 20) (a' := ?_) (f := 25) Try.func25 (by kernel_rfl) rfl #[.agg ts, .int .i64 issued] (by rfl) rfl rfl (by (try simp only [List.map_toArray, List.map_cons, List.map_nil]); first | done | rfl) (qcall_cls (v := .tuple #[.int .i64 va, .int .i64 vs]) H25.out) ?_ ?_
  rotate_left
  · simp only [Act.put, List.setIfInBounds_toArray, List.set_cons_zero, List.set_cons_succ]
    rfl
  refine qstep (N := some 17) (v := .tuple #[.int .i64 va, .int .i64 vs]) (a' := ?_) rfl (by rfl) (fun w' _ => by go_simp) ?_ ?_
  rotate_left
  · simp only [Act.put, List.setIfInBounds_toArray, List.set_cons_zero, List.set_cons_succ]
    rfl
  refine qstep (N := some 21) (v := .int .i64 va) (a' := ?_) rfl (by rfl) (fun w' _ => by go_simp) ?_ ?_
  rotate_left
  · simp only [Act.put, List.setIfInBounds_toArray, List.set_cons_zero, List.set_cons_succ]
    rfl
  refine qstep (N := some 22) (v := .int .i64 vs) (a' := ?_) rfl (by rfl) (fun w' _ => by go_simp) ?_ ?_
  rotate_left
  · simp only [Act.put, List.setIfInBounds_toArray, List.set_cons_zero, List.set_cons_succ]
    rfl
  refine qstep (N := some 9) (v := .int .i64 va) (a' := ?_) rfl (by rfl) (fun w' _ => by go_simp) ?_ ?_
  rotate_left
  · simp only [Act.put, List.setIfInBounds_toArray, List.set_cons_zero, List.set_cons_succ]
    rfl
  refine qstep (N := some 10) (v := .int .i64 vs) (a' := ?_) rfl (by rfl) (fun w' _ => by go_simp) ?_ ?_
  rotate_left
  · simp only [Act.put, List.setIfInBounds_toArray, List.set_cons_zero, List.set_cons_succ]
    rfl
  refine wpQuiet_nil ?_
  intro w_ h3_
  have h3 := Aside0.mk h3_
  clear h3_
  go_upto_region 4 with (fail)
  refine region_p (C := Cls w ((w.heap.size + 1, ts, 29) :: (w.heap.size, cs, 25) :: [])) (h3.out) ?_
  refine qstep (N := some 24) (v := .agg ts) (a' := ?_) rfl (by rfl) (fun w' h => load_row (h.blk0) rfl rfl Try.underlying29 rfl (by rw [HS_ts.out]; exact info29)) ?_ ?_
  rotate_left
  · simp only [Act.put, List.setIfInBounds_toArray, List.set_cons_zero, List.set_cons_succ]
    rfl
  refine qstep (N := some 25) (v := .int .i64 issued) (a' := ?_) rfl (by rfl) (fun w' _ => by go_simp) ?_ ?_
  rotate_left
  · simp only [Act.put, List.setIfInBounds_toArray, List.set_cons_zero, List.set_cons_succ]
    rfl
  refine qcall (N := some 26) (a' := ?_) (f := 26) Try.func26 (by kernel_rfl) rfl #[.agg ts, .int .i64 issued] (by rfl) rfl rfl (by (try simp only [List.map_toArray, List.map_cons, List.map_nil]); first | done | rfl) (qcall_cls (v := .tuple #[.int .i64 va, .int .i64 vs]) H26.out) ?_ ?_
  rotate_left
  · simp only [Act.put, List.setIfInBounds_toArray, List.set_cons_zero, List.set_cons_succ]
    rfl
  refine qstep (N := some 23) (v := .tuple #[.int .i64 va, .int .i64 vs]) (a' := ?_) rfl (by rfl) (fun w' _ => by go_simp) ?_ ?_
  rotate_left
  · simp only [Act.put, List.setIfInBounds_toArray, List.set_cons_zero, List.set_cons_succ]
    rfl
  refine qstep (N := some 27) (v := .int .i64 va) (a' := ?_) rfl (by rfl) (fun w' _ => by go_simp) ?_ ?_
  rotate_left
  · simp only [Act.put, List.setIfInBounds_toArray, List.set_cons_zero, List.set_cons_succ]
    rfl
  refine qstep (N := some 28) (v := .int .i64 vs) (a' := ?_) rfl (by rfl) (fun w' _ => by go_simp) ?_ ?_
  rotate_left
  · simp only [Act.put, List.setIfInBounds_toArray, List.set_cons_zero, List.set_cons_succ]
    rfl
  refine qstep (N := some 11) (v := .int .i64 va) (a' := ?_) rfl (by rfl) (fun w' _ => by go_simp) ?_ ?_
  rotate_left
  · simp only [Act.put, List.setIfInBounds_toArray, List.set_cons_zero, List.set_cons_succ]
    rfl
  refine qstep (N := some 12) (v := .int .i64 vs) (a' := ?_) rfl (by rfl) (fun w' _ => by go_simp) ?_ ?_
  rotate_left
  · simp only [Act.put, List.setIfInBounds_toArray, List.set_cons_zero, List.set_cons_succ]
    rfl
  refine wpQuiet_nil ?_
  intro w_ h4_
  have h4 := Aside0.mk h4_
  clear h4_
  go_upto_region 5 with (fail)
  refine region_p (C := Cls w ((w.heap.size + 1, ts, 29) :: (w.heap.size, cs, 25) :: [])) (h4.out) ?_
  refine qstep (N := some 29) (v := .int .i64 va) (a' := ?_) rfl (by rfl) (fun w' _ => by go_simp) ?_ ?_
  rotate_left
  · simp only [Act.put, List.setIfInBounds_toArray, List.set_cons_zero, List.set_cons_succ]
    rfl
  refine qstep (N := some 30) (v := .int .i64 va) (a' := ?_) rfl (by rfl) (fun w' _ => by go_simp) ?_ ?_
  rotate_left
  · simp only [Act.put, List.setIfInBounds_toArray, List.set_cons_zero, List.set_cons_succ]
    rfl
  refine qstep (N := some 31) (v := .bool false) (a' := ?_) rfl (by rfl) (fun w' _ => by go_simp) ?_ ?_
  rotate_left
  · simp only [Act.put, List.setIfInBounds_toArray, List.set_cons_zero, List.set_cons_succ]
    rfl
  refine qstep (N := some 32) (v := .bool false) (a' := ?_) rfl (by rfl) (fun w' _ => by go_simp) ?_ ?_
  rotate_left
  · simp only [Act.put, List.setIfInBounds_toArray, List.set_cons_zero, List.set_cons_succ]
    rfl
  refine qstep (N := some 33) (v := .int .i64 vs) (a' := ?_) rfl (by rfl) (fun w' _ => by go_simp) ?_ ?_
  rotate_left
  · simp only [Act.put, List.setIfInBounds_toArray, List.set_cons_zero, List.set_cons_succ]
    rfl
  refine qstep (N := some 34) (v := .int .i64 vs) (a' := ?_) rfl (by rfl) (fun w' _ => by go_simp) ?_ ?_
  rotate_left
  · simp only [Act.put, List.setIfInBounds_toArray, List.set_cons_zero, List.set_cons_succ]
    rfl
  refine qstep (N := some 35) (v := .bool false) (a' := ?_) rfl (by rfl) (fun w' _ => by go_simp) ?_ ?_
  rotate_left
  · simp only [Act.put, List.setIfInBounds_toArray, List.set_cons_zero, List.set_cons_succ]
    rfl
  refine qstep (N := some 36) (v := .bool false) (a' := ?_) rfl (by rfl) (fun w' _ => by go_simp) ?_ ?_
  rotate_left
  · simp only [Act.put, List.setIfInBounds_toArray, List.set_cons_zero, List.set_cons_succ]
    rfl
  refine wpQuiet_nil ?_
  intro w_ h5_
  have h5 := Aside0.mk h5_
  clear h5_
  go_upto_region 7 with (fail)
  refine region_p (C := Cls w ((w.heap.size + 1, ts, 29) :: (w.heap.size, cs, 25) :: [])) (h5.out) ?_
  refine qstep (N := some 37) (v := .agg cs) (a' := ?_) rfl (by rfl) (fun w' h => load_row (h.blk1) rfl rfl Try.underlying25 rfl (by rw [HS_cs.out]; exact info25)) ?_ ?_
  rotate_left
  · simp only [Act.put, List.setIfInBounds_toArray, List.set_cons_zero, List.set_cons_succ]
    rfl
  refine qcall (N := some 38) (a' := ?_) (f := 22) Try.func22 (by kernel_rfl) rfl #[.agg cs] (by rfl) rfl rfl (by (try simp only [List.map_toArray, List.map_cons, List.map_nil]); first | done | rfl) (qcall_cls (v := .bool true) H22.out) ?_ ?_
  rotate_left
  · simp only [Act.put, List.setIfInBounds_toArray, List.set_cons_zero, List.set_cons_succ]
    rfl
  refine qstep (N := some 39) (v := .bool false) (a' := ?_) rfl (by rfl) (fun w' _ => by go_simp) ?_ ?_
  rotate_left
  · simp only [Act.put, List.setIfInBounds_toArray, List.set_cons_zero, List.set_cons_succ]
    rfl
  refine qstep (N := some 40) (v := .bool false) (a' := ?_) rfl (by rfl) (fun w' _ => by go_simp) ?_ ?_
  rotate_left
  · simp only [Act.put, List.setIfInBounds_toArray, List.set_cons_zero, List.set_cons_succ]
    rfl
  refine qstep (N := some 41) (v := .int .i64 e) (a' := ?_) rfl (by rfl) (fun w' _ => by go_simp) ?_ ?_
  rotate_left
  · simp only [Act.put, List.setIfInBounds_toArray, List.set_cons_zero, List.set_cons_succ]
    rfl
  refine qstep (N := some 42) (v := .bool false) (a' := ?_) rfl (by rfl) (fun w' _ => by go_simp; (try simp only [i64_w]); first | exact P0.out | (have h_ := P0.out; omega) | exact cmp_ P0.out | exact cmpd_ P0.out | exact cmpf_ P0.out) ?_ ?_
  rotate_left
  · simp only [Act.put, List.setIfInBounds_toArray, List.set_cons_zero, List.set_cons_succ]
    rfl
  refine qstep (N := some 43) (v := .bool false) (a' := ?_) rfl (by rfl) (fun w' _ => by go_simp) ?_ ?_
  rotate_left
  · simp only [Act.put, List.setIfInBounds_toArray, List.set_cons_zero, List.set_cons_succ]
    rfl
  refine qstep (N := some 44) (v := .bool false) (a' := ?_) rfl (by rfl) (fun w' _ => by go_simp) ?_ ?_
  rotate_left
  · simp only [Act.put, List.setIfInBounds_toArray, List.set_cons_zero, List.set_cons_succ]
    rfl
  refine qstep (N := some 45) (v := .int .i64 e) (a' := ?_) rfl (by rfl) (fun w' _ => by go_simp) ?_ ?_
  rotate_left
  · simp only [Act.put, List.setIfInBounds_toArray, List.set_cons_zero, List.set_cons_succ]
    rfl
  refine qstep (N := some 46) (v := .bool false) (a' := ?_) rfl (by rfl) (fun w' _ => by go_simp; (try simp only [i64_w]); first | exact P1.out | (have h_ := P1.out; omega) | exact cmp_ P1.out | exact cmpd_ P1.out | exact cmpf_ P1.out) ?_ ?_
  rotate_left
  · simp only [Act.put, List.setIfInBounds_toArray, List.set_cons_zero, List.set_cons_succ]
    rfl
  refine qstep (N := some 47) (v := .bool false) (a' := ?_) rfl (by rfl) (fun w' _ => by go_simp) ?_ ?_
  rotate_left
  · simp only [Act.put, List.setIfInBounds_toArray, List.set_cons_zero, List.set_cons_succ]
    rfl
  refine wpQuiet_nil ?_
  intro w_ h7_
  have h7 := Aside0.mk h7_
  clear h7_
  go_upto_region 9 with (fail)
  refine region_q (C := Cls w ((w.heap.size + 1, ts, 29) :: (w.heap.size, cs, 25) :: [])) (by kernel_rfl) (by kernel_rfl) (h7.out.drew) ?_
  refine qstep (N := some 49) (v := .agg cs) (a' := ?_) rfl (by rfl) (fun w' h => load_row (h.blk1) rfl rfl Try.underlying25 rfl (by rw [HS_cs.out]; exact info25)) ?_ ?_
  rotate_left
  · simp only [Act.put, List.setIfInBounds_toArray, List.set_cons_zero, List.set_cons_succ]
    rfl
  refine qstep (N := some 50) (v := .agg ts) (a' := ?_) rfl (by rfl) (fun w' h => load_row (h.blk0) rfl rfl Try.underlying29 rfl (by rw [HS_ts.out]; exact info29)) ?_ ?_
  rotate_left
  · simp only [Act.put, List.setIfInBounds_toArray, List.set_cons_zero, List.set_cons_succ]
    rfl
  refine qstep (N := some 51) (v := .int .i64 issued) (a' := ?_) rfl (by rfl) (fun w' _ => by go_simp) ?_ ?_
  rotate_left
  · simp only [Act.put, List.setIfInBounds_toArray, List.set_cons_zero, List.set_cons_succ]
    rfl
  refine qstep (N := some 52) (v := .int .i64 e) (a' := ?_) rfl (by rfl) (fun w' _ => by go_simp) ?_ ?_
  rotate_left
  · simp only [Act.put, List.setIfInBounds_toArray, List.set_cons_zero, List.set_cons_succ]
    rfl
  refine qcall (N := some 53) (a' := ?_) (f := 27) Try.func27 (by kernel_rfl) rfl #[.agg cs, .agg ts, .int .i64 issued, .int .i64 e] (by rfl) rfl rfl (by (try simp only [List.map_toArray, List.map_cons, List.map_nil]); first | done | rfl) (qcall_cls (v := .bool r) H27.out) ?_ ?_
  rotate_left
  · simp only [Act.put, List.setIfInBounds_toArray, List.set_cons_zero, List.set_cons_succ]
    rfl
  refine qstep (N := some 54) (v := .agg cs) (a' := ?_) rfl (by rfl) (fun w' h => load_row (h.blk1) rfl rfl Try.underlying25 rfl (by rw [HS_cs.out]; exact info25)) ?_ ?_
  rotate_left
  · simp only [Act.put, List.setIfInBounds_toArray, List.set_cons_zero, List.set_cons_succ]
    rfl
  refine qstep (N := some 55) (v := .agg ts) (a' := ?_) rfl (by rfl) (fun w' h => load_row (h.blk0) rfl rfl Try.underlying29 rfl (by rw [HS_ts.out]; exact info29)) ?_ ?_
  rotate_left
  · simp only [Act.put, List.setIfInBounds_toArray, List.set_cons_zero, List.set_cons_succ]
    rfl
  refine qstep (N := some 56) (v := .int .i64 issued) (a' := ?_) rfl (by rfl) (fun w' _ => by go_simp) ?_ ?_
  rotate_left
  · simp only [Act.put, List.setIfInBounds_toArray, List.set_cons_zero, List.set_cons_succ]
    rfl
  refine qstep (N := some 57) (v := .int .i64 e) (a' := ?_) rfl (by rfl) (fun w' _ => by go_simp) ?_ ?_
  rotate_left
  · simp only [Act.put, List.setIfInBounds_toArray, List.set_cons_zero, List.set_cons_succ]
    rfl
  refine qcall (N := some 58) (a' := ?_) (f := 28) Try.func28 (by kernel_rfl) rfl #[.agg cs, .agg ts, .int .i64 issued, .int .i64 e] (by rfl) rfl rfl (by (try simp only [List.map_toArray, List.map_cons, List.map_nil]); first | done | rfl) (qcall_cls (v := .bool r) H28.out) ?_ ?_
  rotate_left
  · simp only [Act.put, List.setIfInBounds_toArray, List.set_cons_zero, List.set_cons_succ]
    rfl
  refine qstep (N := some 59) (v := .bool true) (a' := ?_) rfl (by rfl) (fun w' _ => by go_simp) ?_ ?_
  rotate_left
  · simp only [Act.put, List.setIfInBounds_toArray, List.set_cons_zero, List.set_cons_succ]
    rfl
  refine qstep (N := some 60) (v := .bool true) (a' := ?_) rfl (by rfl) (fun w' _ => by go_simp) ?_ ?_
  rotate_left
  · simp only [Act.put, List.setIfInBounds_toArray, List.set_cons_zero, List.set_cons_succ]
    rfl
  refine qcall (N := some 61) (a' := ?_) (f := 23) Try.func23 (by kernel_rfl) rfl #[] (by rfl) rfl rfl (by (try simp only [List.map_toArray, List.map_cons, List.map_nil]); first | done | rfl) (qcall_cls (v := .bool true) H23.out) ?_ ?_
  rotate_left
  · simp only [Act.put, List.setIfInBounds_toArray, List.set_cons_zero, List.set_cons_succ]
    rfl
  refine qstep (N := some 62) (v := .bool true) (a' := ?_) rfl (by rfl) (fun w' _ => by go_simp) ?_ ?_
  rotate_left
  · simp only [Act.put, List.setIfInBounds_toArray, List.set_cons_zero, List.set_cons_succ]
    rfl
  refine qstep (N := some 8) (v := .bool true) (a' := ?_) rfl (by rfl) (fun w' _ => by go_simp) ?_ ?_
  rotate_left
  · simp only [Act.put, List.setIfInBounds_toArray, List.set_cons_zero, List.set_cons_succ]
    rfl
  refine wpQuiet_nil ?_
  intro w_ h9_
  have h9 := Aside0.mk h9_
  clear h9_
  go_wp2
  go_ret
  exact ⟨rfl, h9.out.below⟩


theorem eShares : PTrackStill.track_Shares.f = pShares := rfl
open TrackBase in
theorem shares_ (x0 x1 x2 n : Int) (h : okTally x0 x1 x2 n) : Rets Try.prog 25 #[agg3 x0 x1 x2, .int .i64 n] (.tuple #[.int .i64 (R x0 (x0 + x1)), .int .i64 (R x2 n)]) := fun w =>
  (PTrackStill.track_Shares.calls x0 x1 x2 n _ _ w (by rw [eShares, shares_eq h])).mono fun _ _ h => h
open TrackBase in
theorem walk (cs0 cs1 cs2 cs3 cs4 cs5 cs6 cs7 cs8 cs9 cs10 cs11 cs12 cs13 cs14 cs15 cs16 cs17 x0 x1 x2 issued e : Int) (w : World) (_ : (Lit.int .i64 x0).wf = true ∧ (Lit.int .i64 x1).wf = true ∧ (Lit.int .i64 x2).wf = true) (_ : (Lit.int .i64 issued).wf = true) (_ : (Lit.int .i64 e).wf = true) :
    Calls Try.prog 4 #[agg18 cs0 cs1 cs2 cs3 cs4 cs5 cs6 cs7 cs8 cs9 cs10 cs11 cs12 cs13 cs14 cs15 cs16 cs17, agg3 x0 x1 x2, .int .i64 issued, .int .i64 e] w fun e w' => e = .returned (.bool true) ∧ Below w.heap.size w w' := by
  by_cases hx : okTally x0 x1 x2 issued
  · have h24 := fits_ x0 x1 x2 issued (decide_eq_true hx)
    have h25 := shares_ x0 x1 x2 issued hx
    have h26 := TrackRefs.shares_ x0 x1 x2 issued hx
    by_cases ok : okTrack cs0 cs1 cs2 cs3 cs4 cs5 cs6 cs7 cs8 cs9 cs10 cs11 cs12 cs13 cs14 cs15 cs16 cs17
    · have h22 := is_ cs0 cs1 cs2 cs3 cs4 cs5 cs6 cs7 cs8 cs9 cs10 cs11 cs12 cs13 cs14 cs15 cs16 cs17 (decide_eq_true ok)
      by_cases e0 : e < 0
      · exact early2 (cs := _) (ts := _) (issued := issued) (e := e) (w := w) (HS_cs := ⟨rfl⟩) (HS_ts := ⟨rfl⟩) (H24 := ⟨h24⟩) (H25 := ⟨h25⟩) (H26 := ⟨h26⟩) (H22 := ⟨h22⟩) (H23 := ⟨known_⟩) (P0 := ⟨e0⟩) (cs0 := cs0) (cs1 := cs1) (cs2 := cs2) (cs3 := cs3) (cs4 := cs4) (cs5 := cs5) (cs6 := cs6) (cs7 := cs7) (cs8 := cs8) (cs9 := cs9) (cs10 := cs10) (cs11 := cs11) (cs12 := cs12) (cs13 := cs13) (cs14 := cs14) (cs15 := cs15) (cs16 := cs16) (cs17 := cs17) (ts0 := x0) (ts1 := x1) (ts2 := x2)
      by_cases e1 : e > 1073741824
      · exact early3 (cs := _) (ts := _) (issued := issued) (e := e) (w := w) (HS_cs := ⟨rfl⟩) (HS_ts := ⟨rfl⟩) (H24 := ⟨h24⟩) (H25 := ⟨h25⟩) (H26 := ⟨h26⟩) (H22 := ⟨h22⟩) (H23 := ⟨known_⟩) (P0 := ⟨e0⟩) (P1 := ⟨e1⟩) (cs0 := cs0) (cs1 := cs1) (cs2 := cs2) (cs3 := cs3) (cs4 := cs4) (cs5 := cs5) (cs6 := cs6) (cs7 := cs7) (cs8 := cs8) (cs9 := cs9) (cs10 := cs10) (cs11 := cs11) (cs12 := cs12) (cs13 := cs13) (cs14 := cs14) (cs15 := cs15) (cs16 := cs16) (cs17 := cs17) (ts0 := x0) (ts1 := x1) (ts2 := x2)
      exact main (cs := _) (ts := _) (issued := issued) (e := e) (w := w) (r := _) (HS_cs := ⟨rfl⟩) (HS_ts := ⟨rfl⟩) (H24 := ⟨h24⟩) (H25 := ⟨h25⟩) (H26 := ⟨h26⟩) (H22 := ⟨h22⟩) (H23 := ⟨known_⟩) (P0 := ⟨e0⟩) (P1 := ⟨e1⟩) (H27 := ⟨passing_ cs0 cs1 cs2 cs3 cs4 cs5 cs6 cs7 cs8 cs9 cs10 cs11 cs12 cs13 cs14 cs15 cs16 cs17 x0 x1 x2 issued e ok hx (by omega) rfl⟩) (H28 := ⟨TrackRefs.passing_ cs0 cs1 cs2 cs3 cs4 cs5 cs6 cs7 cs8 cs9 cs10 cs11 cs12 cs13 cs14 cs15 cs16 cs17 x0 x1 x2 issued e ok hx (by omega) rfl⟩) (cs0 := cs0) (cs1 := cs1) (cs2 := cs2) (cs3 := cs3) (cs4 := cs4) (cs5 := cs5) (cs6 := cs6) (cs7 := cs7) (cs8 := cs8) (cs9 := cs9) (cs10 := cs10) (cs11 := cs11) (cs12 := cs12) (cs13 := cs13) (cs14 := cs14) (cs15 := cs15) (cs16 := cs16) (cs17 := cs17) (ts0 := x0) (ts1 := x1) (ts2 := x2)
    · exact early1 (cs := _) (ts := _) (issued := issued) (e := e) (w := w) (HS_cs := ⟨rfl⟩) (HS_ts := ⟨rfl⟩) (H24 := ⟨h24⟩) (H25 := ⟨h25⟩) (H26 := ⟨h26⟩) (H22 := ⟨is_ cs0 cs1 cs2 cs3 cs4 cs5 cs6 cs7 cs8 cs9 cs10 cs11 cs12 cs13 cs14 cs15 cs16 cs17 (decide_eq_false ok)⟩) (H23 := ⟨known_⟩) (cs0 := cs0) (cs1 := cs1) (cs2 := cs2) (cs3 := cs3) (cs4 := cs4) (cs5 := cs5) (cs6 := cs6) (cs7 := cs7) (cs8 := cs8) (cs9 := cs9) (cs10 := cs10) (cs11 := cs11) (cs12 := cs12) (cs13 := cs13) (cs14 := cs14) (cs15 := cs15) (cs16 := cs16) (cs17 := cs17) (ts0 := x0) (ts1 := x1) (ts2 := x2)
  · exact early0 (cs := _) (ts := _) (issued := issued) (e := e) (w := w) (HS_cs := ⟨rfl⟩) (HS_ts := ⟨rfl⟩) (H24 := ⟨fits_ x0 x1 x2 issued (decide_eq_false hx)⟩) (cs0 := cs0) (cs1 := cs1) (cs2 := cs2) (cs3 := cs3) (cs4 := cs4) (cs5 := cs5) (cs6 := cs6) (cs7 := cs7) (cs8 := cs8) (cs9 := cs9) (cs10 := cs10) (cs11 := cs11) (cs12 := cs12) (cs13 := cs13) (cs14 := cs14) (cs15 := cs15) (cs16 := cs16) (cs17 := cs17) (ts0 := x0) (ts1 := x1) (ts2 := x2)

end Go.Proofs.Ytpnjddolboahoaa.WalkTrackTells
