/- The reference's shares of a tally, and whether it passes by the reference: what each hands back. -/
import Derived.Test.YtpnjddolboahoaaTrackBase
import Derived.Test.YtpnjddolboahoaaRefAt
import Derived.Test.YtpnjddolboahoaaPPerTellsx1
namespace Go.Proofs.Ytpnjddolboahoaa.TrackRefs
open Go.RowKit Go.Proofs.YtpnjddolboahoaaW.PrintWords Go.Proofs.YtpnjddolboahoaaW.PrintLast Go.Proofs.YtpnjddolboahoaaW.PrintMore Go.Proofs.Ytpnjddolboahoaa.Math Go.Proofs.Ytpnjddolboahoaa.Q
attribute [local go_sem] max2_int min2_int max_two min_two
set_option linter.unusedVariables false
set_option linter.unusedSimpArgs false

theorem info23 : (Try.prog.info? 23).map (·.size) = some 5 := by kernel_rfl
theorem info25 : (Try.prog.info? 25).map (·.size) = some 18 := by kernel_rfl
theorem info29 : (Try.prog.info? 29).map (·.size) = some 3 := by kernel_rfl
theorem cmp_ {a b : Int} {w : World} (h : a = b) : Result.ok (Next.value (.bool (a == b))) w = Result.ok (Next.value (.bool true)) w := by rw [beq_iff_eq.mpr h]
theorem cmpd_ {p : Prop} [Decidable p] {w : World} (h : p) : Result.ok (Next.value (.bool (decide p))) w = Result.ok (Next.value (.bool true)) w := by rw [decide_eq_true h]
theorem cmpf_ {p : Prop} [Decidable p] {w : World} (h : ¬ p) : Result.ok (Next.value (.bool (decide p))) w = Result.ok (Next.value (.bool false)) w := by rw [decide_eq_false h]

set_option maxHeartbeats 4000000 in
set_option maxRecDepth 100000 in
theorem shares (ts : Array Value) (n : Int) (ts0 ts1 ts2 : Int) (va vs : Int) (w : World) (HS_ts : Aside0 (ts.size = 3)) (HC_ts_0 : Aside0 (ts[0]? = some (.int .i64 ts0))) (HC_ts_1 : Aside0 (ts[1]? = some (.int .i64 ts1))) (HC_ts_2 : Aside0 (ts[2]? = some (.int .i64 ts2)))
    (Ha : Aside0 (Rets Try.prog 34 #[.int .i64 ts0, .int .i64 (wrap64 (ts0 + ts1))] (.int .i64 va)))
    (Hs : Aside0 (Rets Try.prog 34 #[.int .i64 ts2, .int .i64 n] (.int .i64 vs))) :
    Calls Try.prog 26 #[.agg ts, .int .i64 n] w fun e w' => e = .returned (.tuple #[.int .i64 va, .int .i64 vs]) ∧ Below w.heap.size w w' := by
  have HCl : Aside0 (Cls w ((w.heap.size, ts, 29) :: []) (w.alloc (.cells ts 29 (0, 0)))) := ⟨(Cls.start w).put _ _⟩
  go_enter Try.func26, Try.ntmps26
  go_upto_region 1 with (fail)
  refine region_q (C := Cls w ((w.heap.size, ts, 29) :: [])) (by kernel_rfl) (by kernel_rfl) (HCl.out.drew) ?_
  refine qstep (N := some 6) (v := .pointer (some ⟨w.heap.size, 0, none⟩)) (a' := ?_) rfl (by rfl) (fun w' _ => by go_simp) ?_ ?_
  rotate_left
  · simp only [Act.put, List.setIfInBounds_toArray, List.set_cons_zero, List.set_cons_succ]
    rfl
  refine qstep (N := some 7) (v := .int .i64 ts0) (a' := ?_) rfl (by rfl) (fun w' h => load_cell (h.blk0) HC_ts_0.out rfl rfl Try.underlying3 rfl) ?_ ?_
  rotate_left
  · simp only [Act.put, List.setIfInBounds_toArray, List.set_cons_zero, List.set_cons_succ]
    rfl
  refine qstep (N := some 8) (v := .pointer (some ⟨w.heap.size, 0, none⟩)) (a' := ?_) rfl (by rfl) (fun w' _ => by go_simp) ?_ ?_
  rotate_left
  · simp only [Act.put, List.setIfInBounds_toArray, List.set_cons_zero, List.set_cons_succ]
    rfl
  refine qstep (N := some 9) (v := .int .i64 ts0) (a' := ?_) rfl (by rfl) (fun w' h => load_cell (h.blk0) HC_ts_0.out rfl rfl Try.underlying3 rfl) ?_ ?_
  rotate_left
  · simp only [Act.put, List.setIfInBounds_toArray, List.set_cons_zero, List.set_cons_succ]
    rfl
  refine qstep (N := some 10) (v := .pointer (some ⟨w.heap.size, 1, none⟩)) (a' := ?_) rfl (by rfl) (fun w' _ => by go_simp) ?_ ?_
  rotate_left
  · simp only [Act.put, List.setIfInBounds_toArray, List.set_cons_zero, List.set_cons_succ]
    rfl
  refine qstep (N := some 11) (v := .int .i64 ts1) (a' := ?_) rfl (by rfl) (fun w' h => load_cell (h.blk0) HC_ts_1.out rfl rfl Try.underlying3 rfl) ?_ ?_
  rotate_left
  · simp only [Act.put, List.setIfInBounds_toArray, List.set_cons_zero, List.set_cons_succ]
    rfl
  refine qstep (N := some 12) (v := .int .i64 (wrap64 (ts0 + ts1))) (a' := ?_) rfl (by rfl) (fun w' _ => by go_simp <;> simp only [i64_w]) ?_ ?_
  rotate_left
  · simp only [Act.put, List.setIfInBounds_toArray, List.set_cons_zero, List.set_cons_succ]
    rfl
  refine qcall (N := some 13) (a' := ?_) (f := 34) Try.func34 (by kernel_rfl) rfl #[.int .i64 ts0, .int .i64 (wrap64 (ts0 + ts1))] (by rfl) rfl rfl (by (try simp only [List.map_toArray, List.map_cons, List.map_nil]); first | done | rfl) (qcall_cls (v := .int .i64 va) Ha.out) ?_ ?_
  rotate_left
  · simp only [Act.put, List.setIfInBounds_toArray, List.set_cons_zero, List.set_cons_succ]
    rfl
  refine qstep (N := some 14) (v := .pointer (some ⟨w.heap.size, 2, none⟩)) (a' := ?_) rfl (by rfl) (fun w' _ => by go_simp) ?_ ?_
  rotate_left
  · simp only [Act.put, List.setIfInBounds_toArray, List.set_cons_zero, List.set_cons_succ]
    rfl
  refine qstep (N := some 15) (v := .int .i64 ts2) (a' := ?_) rfl (by rfl) (fun w' h => load_cell (h.blk0) HC_ts_2.out rfl rfl Try.underlying3 rfl) ?_ ?_
  rotate_left
  · simp only [Act.put, List.setIfInBounds_toArray, List.set_cons_zero, List.set_cons_succ]
    rfl
  refine qstep (N := some 16) (v := .int .i64 n) (a' := ?_) rfl (by rfl) (fun w' _ => by go_simp) ?_ ?_
  rotate_left
  · simp only [Act.put, List.setIfInBounds_toArray, List.set_cons_zero, List.set_cons_succ]
    rfl
  refine qcall (N := some 17) (a' := ?_) (f := 34) Try.func34 (by kernel_rfl) rfl #[.int .i64 ts2, .int .i64 n] (by rfl) rfl rfl (by (try simp only [List.map_toArray, List.map_cons, List.map_nil]); first | done | rfl) (qcall_cls (v := .int .i64 vs) Hs.out) ?_ ?_
  rotate_left
  · simp only [Act.put, List.setIfInBounds_toArray, List.set_cons_zero, List.set_cons_succ]
    rfl
  refine qstep (N := some 4) (v := .int .i64 va) (a' := ?_) rfl (by rfl) (fun w' _ => by go_simp) ?_ ?_
  rotate_left
  · simp only [Act.put, List.setIfInBounds_toArray, List.set_cons_zero, List.set_cons_succ]
    rfl
  refine qstep (N := some 5) (v := .int .i64 vs) (a' := ?_) rfl (by rfl) (fun w' _ => by go_simp) ?_ ?_
  rotate_left
  · simp only [Act.put, List.setIfInBounds_toArray, List.set_cons_zero, List.set_cons_succ]
    rfl
  refine wpQuiet_nil ?_
  intro w_ h1_
  have h1 := Aside0.mk h1_
  clear h1_
  go_wp2
  go_ret2
  exact ⟨rfl, h1.out.below⟩

set_option maxHeartbeats 4000000 in
set_option maxRecDepth 100000 in
theorem passA (cs : Array Value) (ts : Array Value) (n : Int) (e : Int) (cs0 cs1 cs2 cs3 cs4 cs5 cs6 cs7 cs8 cs9 cs10 cs11 cs12 cs13 cs14 cs15 cs16 cs17 ts0 ts1 ts2 : Int) (va vs vx ya ys : Int) (r : Bool) (ca sa : Array Value) (w : World) (HS_cs : Aside0 (cs.size = 18)) (HC_cs_3 : Aside0 (cs[3]? = some (.int .i64 cs3))) (HS_ts : Aside0 (ts.size = 3))
    (HS_ca : Aside0 (ca.size = 5))
    (HS_sa : Aside0 (sa.size = 5))
    (HPA : Aside0 (∀ j v, ca[j]? = some v → cs[6 + j]? = some v))
    (HPS : Aside0 (∀ j v, sa[j]? = some v → cs[11 + j]? = some v))
    (Hx : Aside0 (Rets Try.prog 34 #[.int .i64 (mn e cs3), .int .i64 cs3] (.int .i64 vx)))
    (H26 : Aside0 (Rets Try.prog 26 #[.agg ts, .int .i64 n] (.tuple #[.int .i64 va, .int .i64 vs])))
    (Hya : Aside0 (Rets Try.prog 29 #[.agg ca, .int .i64 vx] (.int .i64 ya)))
    (Hys : Aside0 (Rets Try.prog 29 #[.agg sa, .int .i64 vx] (.int .i64 ys)))
    (Hr : Aside0 (decide (vs ≥ ys) = r))
    (P0 : Aside0 (va ≥ ya)) :
    Calls Try.prog 28 #[.agg cs, .agg ts, .int .i64 n, .int .i64 e] w fun e w' => e = .returned (.bool r) ∧ Below w.heap.size w w' := by
  have HCl : Aside0 (Cls w ((w.heap.size + 1, ts, 29) :: (w.heap.size, cs, 25) :: []) ((w.alloc (.cells cs 25 (0, 0))).alloc (.cells ts 29 (0, 0)))) := ⟨Cls.put2 w _ _ _ _⟩
  go_enter Try.func28, Try.ntmps28
  go_upto_region 1 with (fail)
  refine region_p (C := Cls w ((w.heap.size + 1, ts, 29) :: (w.heap.size, cs, 25) :: [])) (HCl.out) ?_
  refine qstep (N := some 12) (v := .int .i64 e) (a' := ?_) rfl (by rfl) (fun w' _ => by go_simp) ?_ ?_
  rotate_left
  · simp only [Act.put, List.setIfInBounds_toArray, List.set_cons_zero, List.set_cons_succ]
    rfl
  refine qstep (N := some 13) (v := .pointer (some ⟨w.heap.size, 3, none⟩)) (a' := ?_) rfl (by rfl) (fun w' _ => by go_simp) ?_ ?_
  rotate_left
  · simp only [Act.put, List.setIfInBounds_toArray, List.set_cons_zero, List.set_cons_succ]
    rfl
  refine qstep (N := some 14) (v := .int .i64 cs3) (a' := ?_) rfl (by rfl) (fun w' h => load_cell (h.blk1) HC_cs_3.out rfl rfl Try.underlying3 rfl) ?_ ?_
  rotate_left
  · simp only [Act.put, List.setIfInBounds_toArray, List.set_cons_zero, List.set_cons_succ]
    rfl
  refine qstep (N := some 15) (v := .int .i64 (mn e cs3)) (a' := ?_) rfl (by rfl) (fun w' _ => by go_simp <;> rfl) ?_ ?_
  rotate_left
  · simp only [Act.put, List.setIfInBounds_toArray, List.set_cons_zero, List.set_cons_succ]
    rfl
  refine qstep (N := some 16) (v := .pointer (some ⟨w.heap.size, 3, none⟩)) (a' := ?_) rfl (by rfl) (fun w' _ => by go_simp) ?_ ?_
  rotate_left
  · simp only [Act.put, List.setIfInBounds_toArray, List.set_cons_zero, List.set_cons_succ]
    rfl
  refine qstep (N := some 17) (v := .int .i64 cs3) (a' := ?_) rfl (by rfl) (fun w' h => load_cell (h.blk1) HC_cs_3.out rfl rfl Try.underlying3 rfl) ?_ ?_
  rotate_left
  · simp only [Act.put, List.setIfInBounds_toArray, List.set_cons_zero, List.set_cons_succ]
    rfl
  refine qcall (N := some 18) (a' := ?_) (f := 34) Try.func34 (by kernel_rfl) rfl #[.int .i64 (mn e cs3), .int .i64 cs3] (by rfl) rfl rfl (by (try simp only [List.map_toArray, List.map_cons, List.map_nil]); first | done | rfl) (qcall_cls (v := .int .i64 vx) Hx.out) ?_ ?_
  rotate_left
  · simp only [Act.put, List.setIfInBounds_toArray, List.set_cons_zero, List.set_cons_succ]
    rfl
  refine qstep (N := some 9) (v := .int .i64 vx) (a' := ?_) rfl (by rfl) (fun w' _ => by go_simp) ?_ ?_
  rotate_left
  · simp only [Act.put, List.setIfInBounds_toArray, List.set_cons_zero, List.set_cons_succ]
    rfl
  refine wpQuiet_nil ?_
  intro w_ h1_
  have h1 := Aside0.mk h1_
  clear h1_
  go_upto_region 2 with (fail)
  refine region_p (C := Cls w ((w.heap.size + 1, ts, 29) :: (w.heap.size, cs, 25) :: [])) (h1.out) ?_
  refine qstep (N := some 20) (v := .agg ts) (a' := ?_) rfl (by rfl) (fun w' h => load_row (h.blk0) rfl rfl Try.underlying29 rfl (by rw [HS_ts.out]; exact info29)) ?_ ?_
  rotate_left
  · simp only [Act.put, List.setIfInBounds_toArray, List.set_cons_zero, List.set_cons_succ]
    rfl
  refine qstep (N := some 21) (v := .int .i64 n) (a' := ?_) rfl (by rfl) (fun w' _ => by go_simp) ?_ ?_
  rotate_left
  · simp only [Act.put, List.setIfInBounds_toArray, List.set_cons_zero, List.set_cons_succ]
    rfl
  refine qcall (N := some 22) (a' := ?_) (f := 26) Try.func26 (by kernel_rfl) rfl #[.agg ts, .int .i64 n] (by rfl) rfl rfl (by (try simp only [List.map_toArray, List.map_cons, List.map_nil]); first | done | rfl) (qcall_cls (v := .tuple #[.int .i64 va, .int .i64 vs]) H26.out) ?_ ?_
  rotate_left
  · simp only [Act.put, List.setIfInBounds_toArray, List.set_cons_zero, List.set_cons_succ]
    rfl
  refine qstep (N := some 19) (v := .tuple #[.int .i64 va, .int .i64 vs]) (a' := ?_) rfl (by rfl) (fun w' _ => by go_simp) ?_ ?_
  rotate_left
  · simp only [Act.put, List.setIfInBounds_toArray, List.set_cons_zero, List.set_cons_succ]
    rfl
  refine qstep (N := some 23) (v := .int .i64 va) (a' := ?_) rfl (by rfl) (fun w' _ => by go_simp) ?_ ?_
  rotate_left
  · simp only [Act.put, List.setIfInBounds_toArray, List.set_cons_zero, List.set_cons_succ]
    rfl
  refine qstep (N := some 24) (v := .int .i64 vs) (a' := ?_) rfl (by rfl) (fun w' _ => by go_simp) ?_ ?_
  rotate_left
  · simp only [Act.put, List.setIfInBounds_toArray, List.set_cons_zero, List.set_cons_succ]
    rfl
  refine qstep (N := some 10) (v := .int .i64 va) (a' := ?_) rfl (by rfl) (fun w' _ => by go_simp) ?_ ?_
  rotate_left
  · simp only [Act.put, List.setIfInBounds_toArray, List.set_cons_zero, List.set_cons_succ]
    rfl
  refine qstep (N := some 11) (v := .int .i64 vs) (a' := ?_) rfl (by rfl) (fun w' _ => by go_simp) ?_ ?_
  rotate_left
  · simp only [Act.put, List.setIfInBounds_toArray, List.set_cons_zero, List.set_cons_succ]
    rfl
  refine wpQuiet_nil ?_
  intro w_ h2_
  have h2 := Aside0.mk h2_
  clear h2_
  go_upto_region 3 with (fail)
  refine region_p (C := Cls w ((w.heap.size + 1, ts, 29) :: (w.heap.size, cs, 25) :: [])) (h2.out) ?_
  refine qstep (N := some 25) (v := .int .i64 va) (a' := ?_) rfl (by rfl) (fun w' _ => by go_simp) ?_ ?_
  rotate_left
  · simp only [Act.put, List.setIfInBounds_toArray, List.set_cons_zero, List.set_cons_succ]
    rfl
  refine qstep (N := some 26) (v := .pointer (some ⟨w.heap.size, 6, none⟩)) (a' := ?_) rfl (by rfl) (fun w' _ => by go_simp) ?_ ?_
  rotate_left
  · simp only [Act.put, List.setIfInBounds_toArray, List.set_cons_zero, List.set_cons_succ]
    rfl
  refine qstep (N := some 27) (v := .agg ca) (a' := ?_) rfl (by rfl) (fun w' h => load_part (h.blk1) (fun j v h_ => HPA.out j v h_) rfl rfl Try.underlying23 rfl (by rw [HS_ca.out]; exact info23)) ?_ ?_
  rotate_left
  · simp only [Act.put, List.setIfInBounds_toArray, List.set_cons_zero, List.set_cons_succ]
    rfl
  refine qstep (N := some 28) (v := .int .i64 vx) (a' := ?_) rfl (by rfl) (fun w' _ => by go_simp) ?_ ?_
  rotate_left
  · simp only [Act.put, List.setIfInBounds_toArray, List.set_cons_zero, List.set_cons_succ]
    rfl
  refine qcall (N := some 29) (a' := ?_) (f := 29) Try.func29 (by kernel_rfl) rfl #[.agg ca, .int .i64 vx] (by rfl) rfl rfl (by (try simp only [List.map_toArray, List.map_cons, List.map_nil]); first | done | rfl) (qcall_cls (v := .int .i64 ya) Hya.out) ?_ ?_
  rotate_left
  · simp only [Act.put, List.setIfInBounds_toArray, List.set_cons_zero, List.set_cons_succ]
    rfl
  refine qstep (N := some 30) (v := .bool true) (a' := ?_) rfl (by rfl) (fun w' _ => by go_simp; (try simp only [i64_w]); first | exact P0.out | (have h_ := P0.out; omega) | exact cmp_ P0.out | exact cmpd_ P0.out | exact cmpf_ P0.out) ?_ ?_
  rotate_left
  · simp only [Act.put, List.setIfInBounds_toArray, List.set_cons_zero, List.set_cons_succ]
    rfl
  refine qstep (N := some 31) (v := .bool true) (a' := ?_) rfl (by rfl) (fun w' _ => by go_simp) ?_ ?_
  rotate_left
  · simp only [Act.put, List.setIfInBounds_toArray, List.set_cons_zero, List.set_cons_succ]
    rfl
  refine qstep (N := some 32) (v := .int .i64 vs) (a' := ?_) rfl (by rfl) (fun w' _ => by go_simp) ?_ ?_
  rotate_left
  · simp only [Act.put, List.setIfInBounds_toArray, List.set_cons_zero, List.set_cons_succ]
    rfl
  refine qstep (N := some 33) (v := .pointer (some ⟨w.heap.size, 11, none⟩)) (a' := ?_) rfl (by rfl) (fun w' _ => by go_simp) ?_ ?_
  rotate_left
  · simp only [Act.put, List.setIfInBounds_toArray, List.set_cons_zero, List.set_cons_succ]
    rfl
  refine qstep (N := some 34) (v := .agg sa) (a' := ?_) rfl (by rfl) (fun w' h => load_part (h.blk1) (fun j v h_ => HPS.out j v h_) rfl rfl Try.underlying23 rfl (by rw [HS_sa.out]; exact info23)) ?_ ?_
  rotate_left
  · simp only [Act.put, List.setIfInBounds_toArray, List.set_cons_zero, List.set_cons_succ]
    rfl
  refine qstep (N := some 35) (v := .int .i64 vx) (a' := ?_) rfl (by rfl) (fun w' _ => by go_simp) ?_ ?_
  rotate_left
  · simp only [Act.put, List.setIfInBounds_toArray, List.set_cons_zero, List.set_cons_succ]
    rfl
  refine qcall (N := some 36) (a' := ?_) (f := 29) Try.func29 (by kernel_rfl) rfl #[.agg sa, .int .i64 vx] (by rfl) rfl rfl (by (try simp only [List.map_toArray, List.map_cons, List.map_nil]); first | done | rfl) (qcall_cls (v := .int .i64 ys) Hys.out) ?_ ?_
  rotate_left
  · simp only [Act.put, List.setIfInBounds_toArray, List.set_cons_zero, List.set_cons_succ]
    rfl
  refine qstep (N := some 37) (v := .bool r) (a' := ?_) rfl (by rfl) (fun w' _ => by go_simp; first | done | exact Hr.out | (rw [Hr.out]; done) | (simp [Hr.out]; done)) ?_ ?_
  rotate_left
  · simp only [Act.put, List.setIfInBounds_toArray, List.set_cons_zero, List.set_cons_succ]
    rfl
  refine qstep (N := some 38) (v := .bool r) (a' := ?_) rfl (by rfl) (fun w' _ => by go_simp) ?_ ?_
  rotate_left
  · simp only [Act.put, List.setIfInBounds_toArray, List.set_cons_zero, List.set_cons_succ]
    rfl
  refine qstep (N := some 8) (v := .bool r) (a' := ?_) rfl (by rfl) (fun w' _ => by go_simp) ?_ ?_
  rotate_left
  · simp only [Act.put, List.setIfInBounds_toArray, List.set_cons_zero, List.set_cons_succ]
    rfl
  refine wpQuiet_nil ?_
  intro w_ h3_
  have h3 := Aside0.mk h3_
  clear h3_
  go_wp2
  go_ret
  exact ⟨rfl, h3.out.below⟩

set_option maxHeartbeats 4000000 in
set_option maxRecDepth 100000 in
theorem passB (cs : Array Value) (ts : Array Value) (n : Int) (e : Int) (cs0 cs1 cs2 cs3 cs4 cs5 cs6 cs7 cs8 cs9 cs10 cs11 cs12 cs13 cs14 cs15 cs16 cs17 ts0 ts1 ts2 : Int) (va vs vx ya ys : Int) (r : Bool) (ca sa : Array Value) (w : World) (HS_cs : Aside0 (cs.size = 18)) (HC_cs_3 : Aside0 (cs[3]? = some (.int .i64 cs3))) (HS_ts : Aside0 (ts.size = 3))
    (HS_ca : Aside0 (ca.size = 5))
    (HS_sa : Aside0 (sa.size = 5))
    (HPA : Aside0 (∀ j v, ca[j]? = some v → cs[6 + j]? = some v))
    (HPS : Aside0 (∀ j v, sa[j]? = some v → cs[11 + j]? = some v))
    (Hx : Aside0 (Rets Try.prog 34 #[.int .i64 (mn e cs3), .int .i64 cs3] (.int .i64 vx)))
    (H26 : Aside0 (Rets Try.prog 26 #[.agg ts, .int .i64 n] (.tuple #[.int .i64 va, .int .i64 vs])))
    (Hya : Aside0 (Rets Try.prog 29 #[.agg ca, .int .i64 vx] (.int .i64 ya)))
    (Hys : Aside0 (Rets Try.prog 29 #[.agg sa, .int .i64 vx] (.int .i64 ys)))
    (Hr : Aside0 (false = r))
    (P0 : Aside0 (¬ (va ≥ ya))) :
    Calls Try.prog 28 #[.agg cs, .agg ts, .int .i64 n, .int .i64 e] w fun e w' => e = .returned (.bool r) ∧ Below w.heap.size w w' := by
  have HCl : Aside0 (Cls w ((w.heap.size + 1, ts, 29) :: (w.heap.size, cs, 25) :: []) ((w.alloc (.cells cs 25 (0, 0))).alloc (.cells ts 29 (0, 0)))) := ⟨Cls.put2 w _ _ _ _⟩
  go_enter Try.func28, Try.ntmps28
  go_upto_region 1 with (fail)
  refine region_p (C := Cls w ((w.heap.size + 1, ts, 29) :: (w.heap.size, cs, 25) :: [])) (HCl.out) ?_
  refine qstep (N := some 12) (v := .int .i64 e) (a' := ?_) rfl (by rfl) (fun w' _ => by go_simp) ?_ ?_
  rotate_left
  · simp only [Act.put, List.setIfInBounds_toArray, List.set_cons_zero, List.set_cons_succ]
    rfl
  refine qstep (N := some 13) (v := .pointer (some ⟨w.heap.size, 3, none⟩)) (a' := ?_) rfl (by rfl) (fun w' _ => by go_simp) ?_ ?_
  rotate_left
  · simp only [Act.put, List.setIfInBounds_toArray, List.set_cons_zero, List.set_cons_succ]
    rfl
  refine qstep (N := some 14) (v := .int .i64 cs3) (a' := ?_) rfl (by rfl) (fun w' h => load_cell (h.blk1) HC_cs_3.out rfl rfl Try.underlying3 rfl) ?_ ?_
  rotate_left
  · simp only [Act.put, List.setIfInBounds_toArray, List.set_cons_zero, List.set_cons_succ]
    rfl
  refine qstep (N := some 15) (v := .int .i64 (mn e cs3)) (a' := ?_) rfl (by rfl) (fun w' _ => by go_simp <;> rfl) ?_ ?_
  rotate_left
  · simp only [Act.put, List.setIfInBounds_toArray, List.set_cons_zero, List.set_cons_succ]
    rfl
  refine qstep (N := some 16) (v := .pointer (some ⟨w.heap.size, 3, none⟩)) (a' := ?_) rfl (by rfl) (fun w' _ => by go_simp) ?_ ?_
  rotate_left
  · simp only [Act.put, List.setIfInBounds_toArray, List.set_cons_zero, List.set_cons_succ]
    rfl
  refine qstep (N := some 17) (v := .int .i64 cs3) (a' := ?_) rfl (by rfl) (fun w' h => load_cell (h.blk1) HC_cs_3.out rfl rfl Try.underlying3 rfl) ?_ ?_
  rotate_left
  · simp only [Act.put, List.setIfInBounds_toArray, List.set_cons_zero, List.set_cons_succ]
    rfl
  refine qcall (N := some 18) (a' := ?_) (f := 34) Try.func34 (by kernel_rfl) rfl #[.int .i64 (mn e cs3), .int .i64 cs3] (by rfl) rfl rfl (by (try simp only [List.map_toArray, List.map_cons, List.map_nil]); first | done | rfl) (qcall_cls (v := .int .i64 vx) Hx.out) ?_ ?_
  rotate_left
  · simp only [Act.put, List.setIfInBounds_toArray, List.set_cons_zero, List.set_cons_succ]
    rfl
  refine qstep (N := some 9) (v := .int .i64 vx) (a' := ?_) rfl (by rfl) (fun w' _ => by go_simp) ?_ ?_
  rotate_left
  · simp only [Act.put, List.setIfInBounds_toArray, List.set_cons_zero, List.set_cons_succ]
    rfl
  refine wpQuiet_nil ?_
  intro w_ h1_
  have h1 := Aside0.mk h1_
  clear h1_
  go_upto_region 2 with (fail)
  refine region_p (C := Cls w ((w.heap.size + 1, ts, 29) :: (w.heap.size, cs, 25) :: [])) (h1.out) ?_
  refine qstep (N := some 20) (v := .agg ts) (a' := ?_) rfl (by rfl) (fun w' h => load_row (h.blk0) rfl rfl Try.underlying29 rfl (by rw [HS_ts.out]; exact info29)) ?_ ?_
  rotate_left
  · simp only [Act.put, List.setIfInBounds_toArray, List.set_cons_zero, List.set_cons_succ]
    rfl
  refine qstep (N := some 21) (v := .int .i64 n) (a' := ?_) rfl (by rfl) (fun w' _ => by go_simp) ?_ ?_
  rotate_left
  · simp only [Act.put, List.setIfInBounds_toArray, List.set_cons_zero, List.set_cons_succ]
    rfl
  refine qcall (N := some 22) (a' := ?_) (f := 26) Try.func26 (by kernel_rfl) rfl #[.agg ts, .int .i64 n] (by rfl) rfl rfl (by (try simp only [List.map_toArray, List.map_cons, List.map_nil]); first | done | rfl) (qcall_cls (v := .tuple #[.int .i64 va, .int .i64 vs]) H26.out) ?_ ?_
  rotate_left
  · simp only [Act.put, List.setIfInBounds_toArray, List.set_cons_zero, List.set_cons_succ]
    rfl
  refine qstep (N := some 19) (v := .tuple #[.int .i64 va, .int .i64 vs]) (a' := ?_) rfl (by rfl) (fun w' _ => by go_simp) ?_ ?_
  rotate_left
  · simp only [Act.put, List.setIfInBounds_toArray, List.set_cons_zero, List.set_cons_succ]
    rfl
  refine qstep (N := some 23) (v := .int .i64 va) (a' := ?_) rfl (by rfl) (fun w' _ => by go_simp) ?_ ?_
  rotate_left
  · simp only [Act.put, List.setIfInBounds_toArray, List.set_cons_zero, List.set_cons_succ]
    rfl
  refine qstep (N := some 24) (v := .int .i64 vs) (a' := ?_) rfl (by rfl) (fun w' _ => by go_simp) ?_ ?_
  rotate_left
  · simp only [Act.put, List.setIfInBounds_toArray, List.set_cons_zero, List.set_cons_succ]
    rfl
  refine qstep (N := some 10) (v := .int .i64 va) (a' := ?_) rfl (by rfl) (fun w' _ => by go_simp) ?_ ?_
  rotate_left
  · simp only [Act.put, List.setIfInBounds_toArray, List.set_cons_zero, List.set_cons_succ]
    rfl
  refine qstep (N := some 11) (v := .int .i64 vs) (a' := ?_) rfl (by rfl) (fun w' _ => by go_simp) ?_ ?_
  rotate_left
  · simp only [Act.put, List.setIfInBounds_toArray, List.set_cons_zero, List.set_cons_succ]
    rfl
  refine wpQuiet_nil ?_
  intro w_ h2_
  have h2 := Aside0.mk h2_
  clear h2_
  go_upto_region 3 with (fail)
  refine region_p (C := Cls w ((w.heap.size + 1, ts, 29) :: (w.heap.size, cs, 25) :: [])) (h2.out) ?_
  refine qstep (N := some 25) (v := .int .i64 va) (a' := ?_) rfl (by rfl) (fun w' _ => by go_simp) ?_ ?_
  rotate_left
  · simp only [Act.put, List.setIfInBounds_toArray, List.set_cons_zero, List.set_cons_succ]
    rfl
  refine qstep (N := some 26) (v := .pointer (some ⟨w.heap.size, 6, none⟩)) (a' := ?_) rfl (by rfl) (fun w' _ => by go_simp) ?_ ?_
  rotate_left
  · simp only [Act.put, List.setIfInBounds_toArray, List.set_cons_zero, List.set_cons_succ]
    rfl
  refine qstep (N := some 27) (v := .agg ca) (a' := ?_) rfl (by rfl) (fun w' h => load_part (h.blk1) (fun j v h_ => HPA.out j v h_) rfl rfl Try.underlying23 rfl (by rw [HS_ca.out]; exact info23)) ?_ ?_
  rotate_left
  · simp only [Act.put, List.setIfInBounds_toArray, List.set_cons_zero, List.set_cons_succ]
    rfl
  refine qstep (N := some 28) (v := .int .i64 vx) (a' := ?_) rfl (by rfl) (fun w' _ => by go_simp) ?_ ?_
  rotate_left
  · simp only [Act.put, List.setIfInBounds_toArray, List.set_cons_zero, List.set_cons_succ]
    rfl
  refine qcall (N := some 29) (a' := ?_) (f := 29) Try.func29 (by kernel_rfl) rfl #[.agg ca, .int .i64 vx] (by rfl) rfl rfl (by (try simp only [List.map_toArray, List.map_cons, List.map_nil]); first | done | rfl) (qcall_cls (v := .int .i64 ya) Hya.out) ?_ ?_
  rotate_left
  · simp only [Act.put, List.setIfInBounds_toArray, List.set_cons_zero, List.set_cons_succ]
    rfl
  refine qstep (N := some 30) (v := .bool false) (a' := ?_) rfl (by rfl) (fun w' _ => by go_simp; (try simp only [i64_w]); first | exact P0.out | (have h_ := P0.out; omega) | exact cmp_ P0.out | exact cmpd_ P0.out | exact cmpf_ P0.out) ?_ ?_
  rotate_left
  · simp only [Act.put, List.setIfInBounds_toArray, List.set_cons_zero, List.set_cons_succ]
    rfl
  refine qstep (N := some 31) (v := .bool false) (a' := ?_) rfl (by rfl) (fun w' _ => by go_simp) ?_ ?_
  rotate_left
  · simp only [Act.put, List.setIfInBounds_toArray, List.set_cons_zero, List.set_cons_succ]
    rfl
  refine qskip (N := some 32) (a' := ?_) rfl (by rfl) ?_ ?_
  rotate_left
  · simp only [Act.put, List.setIfInBounds_toArray, List.set_cons_zero, List.set_cons_succ]
    rfl
  refine qskip (N := some 33) (a' := ?_) rfl (by rfl) ?_ ?_
  rotate_left
  · simp only [Act.put, List.setIfInBounds_toArray, List.set_cons_zero, List.set_cons_succ]
    rfl
  refine qskip (N := some 34) (a' := ?_) rfl (by rfl) ?_ ?_
  rotate_left
  · simp only [Act.put, List.setIfInBounds_toArray, List.set_cons_zero, List.set_cons_succ]
    rfl
  refine qskip (N := some 35) (a' := ?_) rfl (by rfl) ?_ ?_
  rotate_left
  · simp only [Act.put, List.setIfInBounds_toArray, List.set_cons_zero, List.set_cons_succ]
    rfl
  refine qskip (N := some 36) (a' := ?_) rfl (by rfl) ?_ ?_
  rotate_left
  · simp only [Act.put, List.setIfInBounds_toArray, List.set_cons_zero, List.set_cons_succ]
    rfl
  refine qskip (N := some 37) (a' := ?_) rfl (by rfl) ?_ ?_
  rotate_left
  · simp only [Act.put, List.setIfInBounds_toArray, List.set_cons_zero, List.set_cons_succ]
    rfl
  refine qstep (N := some 38) (v := .bool false) (a' := ?_) rfl (by rfl) (fun w' _ => by go_simp) ?_ ?_
  rotate_left
  · simp only [Act.put, List.setIfInBounds_toArray, List.set_cons_zero, List.set_cons_succ]
    rfl
  refine qstep (N := some 8) (v := .bool false) (a' := ?_) rfl (by rfl) (fun w' _ => by go_simp) ?_ ?_
  rotate_left
  · simp only [Act.put, List.setIfInBounds_toArray, List.set_cons_zero, List.set_cons_succ]
    rfl
  refine wpQuiet_nil ?_
  intro w_ h3_
  have h3 := Aside0.mk h3_
  clear h3_
  go_wp2
  go_ret
  exact ⟨(congrArg (fun z => Ending.returned (.bool z)) Hr.out), h3.out.below⟩


theorem erRatio : PPerTells.althingref4_Ratio.f = rRatio := rfl
theorem ratio_ {a b : Int} (a0 : 0 ≤ a) (a1 : a ≤ 8589934592) (b0 : 0 ≤ b) : Rets Try.prog 34 #[.int .i64 a, .int .i64 b] (.int .i64 (R a b)) := fun w =>
  (PPerTells.althingref4_Ratio.calls a b _ w (by rw [erRatio, rratio a0 a1 b0])).mono fun _ _ h => h
open TrackBase in
theorem shares_ (x0 x1 x2 n : Int) (h : okTally x0 x1 x2 n) : Rets Try.prog 26 #[agg3 x0 x1 x2, .int .i64 n] (.tuple #[.int .i64 (R x0 (x0 + x1)), .int .i64 (R x2 n)]) := fun w => by
  obtain ⟨h0, h1, h2, h3, h4, h5, h6, h7⟩ := h
  refine shares (ts := _) (n := n) (ts0 := x0) (ts1 := x1) (ts2 := x2) (va := _) (vs := _) (w := w) (HS_ts := ⟨rfl⟩) (HC_ts_0 := ⟨rfl⟩) (HC_ts_1 := ⟨rfl⟩) (HC_ts_2 := ⟨rfl⟩) (Ha := ⟨?_⟩) (Hs := ⟨ratio_ h4 h5 h6⟩)
  rw [w64 (by omega) (by omega)]
  exact ratio_ h0 h2 (by omega)
open TrackBase in
theorem passing_ (cs0 cs1 cs2 cs3 cs4 cs5 cs6 cs7 cs8 cs9 cs10 cs11 cs12 cs13 cs14 cs15 cs16 cs17 x0 x1 x2 n e : Int) (ok : okTrack cs0 cs1 cs2 cs3 cs4 cs5 cs6 cs7 cs8 cs9 cs10 cs11 cs12 cs13 cs14 cs15 cs16 cs17) (hx : okTally x0 x1 x2 n) (e0 : 0 ≤ e) {r : Bool} (h : decide (pass cs3 cs6 cs7 cs8 cs9 cs10 cs11 cs12 cs13 cs14 cs15 x0 x1 x2 n e) = r) :
    Rets Try.prog 28 #[agg18 cs0 cs1 cs2 cs3 cs4 cs5 cs6 cs7 cs8 cs9 cs10 cs11 cs12 cs13 cs14 cs15 cs16 cs17, agg3 x0 x1 x2, .int .i64 n, .int .i64 e] (.bool r) := fun w => by
  obtain ⟨_, _, _, _, _, _, ⟨d1, d2⟩, okA, okS, _⟩ := ok
  have s0 := spot_in (e := e) (d := cs3) e0 d1
  have hx1 : Rets Try.prog 34 #[.int .i64 (mn e cs3), .int .i64 cs3] (.int .i64 (spot e cs3)) := by
    rw [mn_eq]; exact ratio_ (by omega) (by omega) (by omega)
  have hA := RefAt.at_ cs6 cs7 cs8 cs9 cs10 (spot e cs3) okA
  have hS := RefAt.at_ cs11 cs12 cs13 cs14 cs15 (spot e cs3) okS
  rw [hold_of s0.1 s0.2] at hA hS
  by_cases zA : R x0 (x0 + x1) ≥ C cs6 cs7 cs8 cs9 cs10 (spot e cs3)
  · refine passA (cs := _) (ts := _) (n := n) (e := e) (w := w) (r := r) (HS_cs := ⟨rfl⟩) (HS_ts := ⟨rfl⟩) (HC_cs_3 := ⟨rfl⟩) (HS_ca := ⟨rfl⟩) (HS_sa := ⟨rfl⟩) (HPA := ⟨partA cs0 cs1 cs2 cs3 cs4 cs5 cs6 cs7 cs8 cs9 cs10 cs11 cs12 cs13 cs14 cs15 cs16 cs17⟩) (HPS := ⟨partS cs0 cs1 cs2 cs3 cs4 cs5 cs6 cs7 cs8 cs9 cs10 cs11 cs12 cs13 cs14 cs15 cs16 cs17⟩) (Hx := ⟨hx1⟩) (H26 := ⟨shares_ x0 x1 x2 n hx⟩) (Hya := ⟨hA⟩) (Hys := ⟨hS⟩) (Hr := ⟨?_⟩) (P0 := ⟨zA⟩) (cs0 := cs0) (cs1 := cs1) (cs2 := cs2) (cs3 := cs3) (cs4 := cs4) (cs5 := cs5) (cs6 := cs6) (cs7 := cs7) (cs8 := cs8) (cs9 := cs9) (cs10 := cs10) (cs11 := cs11) (cs12 := cs12) (cs13 := cs13) (cs14 := cs14) (cs15 := cs15) (cs16 := cs16) (cs17 := cs17) (ts0 := x0) (ts1 := x1) (ts2 := x2)
    rw [← h, decide_eq_decide]; unfold pass
    exact ⟨fun h => ⟨zA, h⟩, fun h => h.2⟩
  · refine passB (cs := _) (ts := _) (n := n) (e := e) (w := w) (r := r) (HS_cs := ⟨rfl⟩) (HS_ts := ⟨rfl⟩) (HC_cs_3 := ⟨rfl⟩) (HS_ca := ⟨rfl⟩) (HS_sa := ⟨rfl⟩) (HPA := ⟨partA cs0 cs1 cs2 cs3 cs4 cs5 cs6 cs7 cs8 cs9 cs10 cs11 cs12 cs13 cs14 cs15 cs16 cs17⟩) (HPS := ⟨partS cs0 cs1 cs2 cs3 cs4 cs5 cs6 cs7 cs8 cs9 cs10 cs11 cs12 cs13 cs14 cs15 cs16 cs17⟩) (Hx := ⟨hx1⟩) (H26 := ⟨shares_ x0 x1 x2 n hx⟩) (Hya := ⟨hA⟩) (Hys := ⟨hS⟩) (Hr := ⟨?_⟩) (P0 := ⟨zA⟩) (cs0 := cs0) (cs1 := cs1) (cs2 := cs2) (cs3 := cs3) (cs4 := cs4) (cs5 := cs5) (cs6 := cs6) (cs7 := cs7) (cs8 := cs8) (cs9 := cs9) (cs10 := cs10) (cs11 := cs11) (cs12 := cs12) (cs13 := cs13) (cs14 := cs14) (cs15 := cs15) (cs16 := cs16) (cs17 := cs17) (ts0 := x0) (ts1 := x1) (ts2 := x2)
    rw [← h]; symm; rw [decide_eq_false_iff_not]; exact fun h => zA h.1

end Go.Proofs.Ytpnjddolboahoaa.TrackRefs
