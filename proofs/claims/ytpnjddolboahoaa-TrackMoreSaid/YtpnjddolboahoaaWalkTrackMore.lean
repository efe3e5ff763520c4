/- What passes passes later, with more ayes, fewer nays, more support, too: the law answers true at every track, tally and numbers. -/
import Derived.Test.YtpnjddolboahoaaTrackBase
import Derived.Test.YtpnjddolboahoaaMathMore
import Derived.Test.YtpnjddolboahoaaQ2
namespace Go.Proofs.Ytpnjddolboahoaa.WalkTrackMore
open Go.RowKit Go.Proofs.YtpnjddolboahoaaW.PrintWords Go.Proofs.YtpnjddolboahoaaW.PrintLast Go.Proofs.YtpnjddolboahoaaW.PrintMore Go.Proofs.Ytpnjddolboahoaa.Math Go.Proofs.Ytpnjddolboahoaa.Q
attribute [local go_sem] max2_int min2_int max_two min_two
set_option linter.unusedVariables false
set_option linter.unusedSimpArgs false

theorem info23 : (Try.prog.info? 23).map (·.size) = some 5 := by kernel_rfl
theorem info25 : (Try.prog.info? 25).map (·.size) = some 18 := by kernel_rfl
theorem info29 : (Try.prog.info? 29).map (·.size) = some 3 := by kernel_rfl
theorem cmp_ {a b : Int} {w : World} (h : a = b) : Result.ok (Next.value (.bool (a == b))) w = Result.ok (Next.value (.bool true)) w := by rw [beq_iff_eq.mpr h]
theorem cmpd_ {p : Prop} [Decidable p] {w : World} (h : p) : Result.ok (Next.value (.bool (decide p))) w = Result.ok (Next.value (.bool true)) w := by rw [decide_eq_true h]
theorem cmpf_ {p : Prop} [Decidable p] {w : World} (h : ¬ p) : Result.ok (Next.value (.bool (decide p))) w = Result.ok (Next.value (.bool false)) w := by rw [decide_eq_false h]

set_option maxHeartbeats 4000000 in
set_option maxRecDepth 100000 in
theorem early0 (cs : Array Value) (ts : Array Value) (issued : Int) (e : Int) (later : Int) (ay : Int) (ny : Int) (su : Int) (cs0 cs1 cs2 cs3 cs4 cs5 cs6 cs7 cs8 cs9 cs10 cs11 cs12 cs13 cs14 cs15 cs16 cs17 ts0 ts1 ts2 : Int)  (w : World) (HS_cs : Aside0 (cs.size = 18)) (HS_ts : Aside0 (ts.size = 3))
    (H22 : Aside0 (Rets Try.prog 22 #[.agg cs] (.bool false))) :
    Calls Try.prog 5 #[.agg cs, .agg ts, .int .i64 issued, .int .i64 e, .int .i64 later, .int .i64 ay, .int .i64 ny, .int .i64 su] w fun e w' => e = .returned (.bool true) ∧ Below w.heap.size w w' := by
  have HCl : Aside0 (Cls w ((w.heap.size + 1, ts, 29) :: (w.heap.size, cs, 25) :: []) ((w.alloc (.cells cs 25 (0, 0))).alloc (.cells ts 29 (0, 0)))) := ⟨Cls.put2 w _ _ _ _⟩
  go_enter Try.func5, Try.ntmps5
  go_upto_region 1 with (fail)
  refine wregion_p (C := Cls w ((w.heap.size + 1, ts, 29) :: (w.heap.size, cs, 25) :: [])) (HCl.out) ?_
  refine wstep (N := some 18) (v := .agg cs) (a' := ?_) rfl (by rfl) (fun w' h => load_row (h.blk1) rfl rfl Try.underlying25 rfl (by rw [HS_cs.out]; exact info25)) ?_ ?_
  rotate_left
  · simp only [Act.put, List.setIfInBounds_toArray, List.set_cons_zero, List.set_cons_succ]
    rfl
  refine wcall (N := some 19) (a' := ?_) (f := 22) Try.func22 (by kernel_rfl) rfl #[.agg cs] (by rfl) rfl rfl (by (try simp only [List.map_toArray, List.map_cons, List.map_nil]); first | done | rfl) (qcall_cls (v := .bool false) H22.out) ?_ ?_
  rotate_left
  · simp only [Act.put, List.setIfInBounds_toArray, List.set_cons_zero, List.set_cons_succ]
    rfl
  refine wstep (N := some 20) (v := .bool true) (a' := ?_) rfl (by rfl) (fun w' _ => by go_simp) ?_ ?_
  rotate_left
  · simp only [Act.put, List.setIfInBounds_toArray, List.set_cons_zero, List.set_cons_succ]
    rfl
  refine wstep (N := some 21) (v := .bool true) (a' := ?_) rfl (by rfl) (fun w' _ => by go_simp) ?_ ?_
  rotate_left
  · simp only [Act.put, List.setIfInBounds_toArray, List.set_cons_zero, List.set_cons_succ]
    rfl
  refine wskip (N := some 22) (a' := ?_) rfl (by rfl) ?_ ?_
  rotate_left
  · simp only [Act.put, List.setIfInBounds_toArray, List.set_cons_zero, List.set_cons_succ]
    rfl
  refine wskip (N := some 23) (a' := ?_) rfl (by rfl) ?_ ?_
  rotate_left
  · simp only [Act.put, List.setIfInBounds_toArray, List.set_cons_zero, List.set_cons_succ]
    rfl
  refine wstep (N := some 24) (v := .bool true) (a' := ?_) rfl (by rfl) (fun w' _ => by go_simp) ?_ ?_
  rotate_left
  · simp only [Act.put, List.setIfInBounds_toArray, List.set_cons_zero, List.set_cons_succ]
    rfl
  refine wstep (N := some 25) (v := .bool true) (a' := ?_) rfl (by rfl) (fun w' _ => by go_simp) ?_ ?_
  rotate_left
  · simp only [Act.put, List.setIfInBounds_toArray, List.set_cons_zero, List.set_cons_succ]
    rfl
  refine wskip (N := some 26) (a' := ?_) rfl (by rfl) ?_ ?_
  rotate_left
  · simp only [Act.put, List.setIfInBounds_toArray, List.set_cons_zero, List.set_cons_succ]
    rfl
  refine wskip (N := some 27) (a' := ?_) rfl (by rfl) ?_ ?_
  rotate_left
  · simp only [Act.put, List.setIfInBounds_toArray, List.set_cons_zero, List.set_cons_succ]
    rfl
  refine wstep (N := some 28) (v := .bool true) (a' := ?_) rfl (by rfl) (fun w' _ => by go_simp) ?_ ?_
  rotate_left
  · simp only [Act.put, List.setIfInBounds_toArray, List.set_cons_zero, List.set_cons_succ]
    rfl
  refine wstep (N := some 29) (v := .bool true) (a' := ?_) rfl (by rfl) (fun w' _ => by go_simp) ?_ ?_
  rotate_left
  · simp only [Act.put, List.setIfInBounds_toArray, List.set_cons_zero, List.set_cons_succ]
    rfl
  refine wskip (N := some 30) (a' := ?_) rfl (by rfl) ?_ ?_
  rotate_left
  · simp only [Act.put, List.setIfInBounds_toArray, List.set_cons_zero, List.set_cons_succ]
    rfl
  refine wskip (N := some 31) (a' := ?_) rfl (by rfl) ?_ ?_
  rotate_left
  · simp only [Act.put, List.setIfInBounds_toArray, List.set_cons_zero, List.set_cons_succ]
    rfl
  refine wstep (N := some 32) (v := .bool true) (a' := ?_) rfl (by rfl) (fun w' _ => by go_simp) ?_ ?_
  rotate_left
  · simp only [Act.put, List.setIfInBounds_toArray, List.set_cons_zero, List.set_cons_succ]
    rfl
  refine wstep (N := some 33) (v := .bool true) (a' := ?_) rfl (by rfl) (fun w' _ => by go_simp) ?_ ?_
  rotate_left
  · simp only [Act.put, List.setIfInBounds_toArray, List.set_cons_zero, List.set_cons_succ]
    rfl
  refine wskip (N := some 34) (a' := ?_) rfl (by rfl) ?_ ?_
  rotate_left
  · simp only [Act.put, List.setIfInBounds_toArray, List.set_cons_zero, List.set_cons_succ]
    rfl
  refine wskip (N := some 35) (a' := ?_) rfl (by rfl) ?_ ?_
  rotate_left
  · simp only [Act.put, List.setIfInBounds_toArray, List.set_cons_zero, List.set_cons_succ]
    rfl
  refine wstep (N := some 36) (v := .bool true) (a' := ?_) rfl (by rfl) (fun w' _ => by go_simp) ?_ ?_
  rotate_left
  · simp only [Act.put, List.setIfInBounds_toArray, List.set_cons_zero, List.set_cons_succ]
    rfl
  refine wstep (N := some 37) (v := .bool true) (a' := ?_) rfl (by rfl) (fun w' _ => by go_simp) ?_ ?_
  rotate_left
  · simp only [Act.put, List.setIfInBounds_toArray, List.set_cons_zero, List.set_cons_succ]
    rfl
  refine wskip (N := some 38) (a' := ?_) rfl (by rfl) ?_ ?_
  rotate_left
  · simp only [Act.put, List.setIfInBounds_toArray, List.set_cons_zero, List.set_cons_succ]
    rfl
  refine wskip (N := some 39) (a' := ?_) rfl (by rfl) ?_ ?_
  rotate_left
  · simp only [Act.put, List.setIfInBounds_toArray, List.set_cons_zero, List.set_cons_succ]
    rfl
  refine wstep (N := some 40) (v := .bool true) (a' := ?_) rfl (by rfl) (fun w' _ => by go_simp) ?_ ?_
  rotate_left
  · simp only [Act.put, List.setIfInBounds_toArray, List.set_cons_zero, List.set_cons_succ]
    rfl
  refine wstep (N := some 41) (v := .bool true) (a' := ?_) rfl (by rfl) (fun w' _ => by go_simp) ?_ ?_
  rotate_left
  · simp only [Act.put, List.setIfInBounds_toArray, List.set_cons_zero, List.set_cons_succ]
    rfl
  refine wskip (N := some 42) (a' := ?_) rfl (by rfl) ?_ ?_
  rotate_left
  · simp only [Act.put, List.setIfInBounds_toArray, List.set_cons_zero, List.set_cons_succ]
    rfl
  refine wskip (N := some 43) (a' := ?_) rfl (by rfl) ?_ ?_
  rotate_left
  · simp only [Act.put, List.setIfInBounds_toArray, List.set_cons_zero, List.set_cons_succ]
    rfl
  refine wstep (N := some 44) (v := .bool true) (a' := ?_) rfl (by rfl) (fun w' _ => by go_simp) ?_ ?_
  rotate_left
  · simp only [Act.put, List.setIfInBounds_toArray, List.set_cons_zero, List.set_cons_succ]
    rfl
  refine wstep (N := some 45) (v := .bool true) (a' := ?_) rfl (by rfl) (fun w' _ => by go_simp) ?_ ?_
  rotate_left
  · simp only [Act.put, List.setIfInBounds_toArray, List.set_cons_zero, List.set_cons_succ]
    rfl
  refine wskip (N := some 46) (a' := ?_) rfl (by rfl) ?_ ?_
  rotate_left
  · simp only [Act.put, List.setIfInBounds_toArray, List.set_cons_zero, List.set_cons_succ]
    rfl
  refine wskip (N := some 47) (a' := ?_) rfl (by rfl) ?_ ?_
  rotate_left
  · simp only [Act.put, List.setIfInBounds_toArray, List.set_cons_zero, List.set_cons_succ]
    rfl
  refine wstep (N := some 48) (v := .bool true) (a' := ?_) rfl (by rfl) (fun w' _ => by go_simp) ?_ ?_
  rotate_left
  · simp only [Act.put, List.setIfInBounds_toArray, List.set_cons_zero, List.set_cons_succ]
    rfl
  refine wstep (N := some 49) (v := .bool true) (a' := ?_) rfl (by rfl) (fun w' _ => by go_simp) ?_ ?_
  rotate_left
  · simp only [Act.put, List.setIfInBounds_toArray, List.set_cons_zero, List.set_cons_succ]
    rfl
  refine wskip (N := some 50) (a' := ?_) rfl (by rfl) ?_ ?_
  rotate_left
  · simp only [Act.put, List.setIfInBounds_toArray, List.set_cons_zero, List.set_cons_succ]
    rfl
  refine wskip (N := some 51) (a' := ?_) rfl (by rfl) ?_ ?_
  rotate_left
  · simp only [Act.put, List.setIfInBounds_toArray, List.set_cons_zero, List.set_cons_succ]
    rfl
  refine wskip (N := some 52) (a' := ?_) rfl (by rfl) ?_ ?_
  rotate_left
  · simp only [Act.put, List.setIfInBounds_toArray, List.set_cons_zero, List.set_cons_succ]
    rfl
  refine wskip (N := some 53) (a' := ?_) rfl (by rfl) ?_ ?_
  rotate_left
  · simp only [Act.put, List.setIfInBounds_toArray, List.set_cons_zero, List.set_cons_succ]
    rfl
  refine wstep (N := some 54) (v := .bool true) (a' := ?_) rfl (by rfl) (fun w' _ => by go_simp) ?_ ?_
  rotate_left
  · simp only [Act.put, List.setIfInBounds_toArray, List.set_cons_zero, List.set_cons_succ]
    rfl
  refine wstep (N := some 55) (v := .bool true) (a' := ?_) rfl (by rfl) (fun w' _ => by go_simp) ?_ ?_
  rotate_left
  · simp only [Act.put, List.setIfInBounds_toArray, List.set_cons_zero, List.set_cons_succ]
    rfl
  refine wskip (N := some 56) (a' := ?_) rfl (by rfl) ?_ ?_
  rotate_left
  · simp only [Act.put, List.setIfInBounds_toArray, List.set_cons_zero, List.set_cons_succ]
    rfl
  refine wskip (N := some 57) (a' := ?_) rfl (by rfl) ?_ ?_
  rotate_left
  · simp only [Act.put, List.setIfInBounds_toArray, List.set_cons_zero, List.set_cons_succ]
    rfl
  refine wstep (N := some 58) (v := .bool true) (a' := ?_) rfl (by rfl) (fun w' _ => by go_simp) ?_ ?_
  rotate_left
  · simp only [Act.put, List.setIfInBounds_toArray, List.set_cons_zero, List.set_cons_succ]
    rfl
  refine wstep (N := some 59) (v := .bool true) (a' := ?_) rfl (by rfl) (fun w' _ => by go_simp) ?_ ?_
  rotate_left
  · simp only [Act.put, List.setIfInBounds_toArray, List.set_cons_zero, List.set_cons_succ]
    rfl
  refine wskip (N := some 60) (a' := ?_) rfl (by rfl) ?_ ?_
  rotate_left
  · simp only [Act.put, List.setIfInBounds_toArray, List.set_cons_zero, List.set_cons_succ]
    rfl
  refine wskip (N := some 61) (a' := ?_) rfl (by rfl) ?_ ?_
  rotate_left
  · simp only [Act.put, List.setIfInBounds_toArray, List.set_cons_zero, List.set_cons_succ]
    rfl
  refine wstep (N := some 62) (v := .bool true) (a' := ?_) rfl (by rfl) (fun w' _ => by go_simp) ?_ ?_
  rotate_left
  · simp only [Act.put, List.setIfInBounds_toArray, List.set_cons_zero, List.set_cons_succ]
    rfl
  refine wnil ?_
  intro w_h1 h1_
  have h1 := Aside0.mk h1_
  clear h1_
  go_wp2
  go_ret
  exact ⟨rfl, h1.out.below⟩

set_option maxHeartbeats 4000000 in
set_option maxRecDepth 100000 in
theorem early1 (cs : Array Value) (ts : Array Value) (issued : Int) (e : Int) (later : Int) (ay : Int) (ny : Int) (su : Int) (cs0 cs1 cs2 cs3 cs4 cs5 cs6 cs7 cs8 cs9 cs10 cs11 cs12 cs13 cs14 cs15 cs16 cs17 ts0 ts1 ts2 : Int)  (w : World) (HS_cs : Aside0 (cs.size = 18)) (HS_ts : Aside0 (ts.size = 3))
    (H22 : Aside0 (Rets Try.prog 22 #[.agg cs] (.bool true)))
    (P0 : Aside0 (e < 0)) :
    Calls Try.prog 5 #[.agg cs, .agg ts, .int .i64 issued, .int .i64 e, .int .i64 later, .int .i64 ay, .int .i64 ny, .int .i64 su] w fun e w' => e = .returned (.bool true) ∧ Below w.heap.size w w' := by
  have HCl : Aside0 (Cls w ((w.heap.size + 1, ts, 29) :: (w.heap.size, cs, 25) :: []) ((w.alloc (.cells cs 25 (0, 0))).alloc (.cells ts 29 (0, 0)))) := ⟨Cls.put2 w _ _ _ _⟩
  go_enter Try.func5, Try.ntmps5
  go_upto_region 1 with (fail)
  refine wregion_p (C := Cls w ((w.heap.size + 1, ts, 29) :: (w.heap.size, cs, 25) :: [])) (HCl.out) ?_
  refine wstep (N := some 18) (v := .agg cs) (a' := ?_) rfl (by rfl) (fun w' h => load_row (h.blk1) rfl rfl Try.underlying25 rfl (by rw [HS_cs.out]; exact info25)) ?_ ?_
  rotate_left
  · simp only [Act.put, List.setIfInBounds_toArray, List.set_cons_zero, List.set_cons_succ]
    rfl
  refine wcall (N := some 19) (a' := ?_) (f := 22) Try.func22 (by kernel_rfl) rfl #[.agg cs] (by rfl) rfl rfl (by (try simp only [List.map_toArray, List.map_cons, List.map_nil]); first | done | rfl) (qcall_cls (v := .bool true) H22.out) ?_ ?_
  rotate_left
  · simp only [Act.put, List.setIfInBounds_toArray, List.set_cons_zero, List.set_cons_succ]
    rfl
  refine wstep (N := some 20) (v := .bool false) (a' := ?_) rfl (by rfl) (fun w' _ => by go_simp) ?_ ?_
  rotate_left
  · simp only [Act.put, List.setIfInBounds_toArray, List.set_cons_zero, List.set_cons_succ]
    rfl
  refine wstep (N := some 21) (v := .bool false) (a' := ?_) rfl (by rfl) (fun w' _ => by go_simp) ?_ ?_
  rotate_left
  · simp only [Act.put, List.setIfInBounds_toArray, List.set_cons_zero, List.set_cons_succ]
    rfl
  refine wstep (N := some 22) (v := .int .i64 e) (a' := ?_) rfl (by rfl) (fun w' _ => by go_simp) ?_ ?_
  rotate_left
  · simp only [Act.put, List.setIfInBounds_toArray, List.set_cons_zero, List.set_cons_succ]
    rfl
  refine wstep (N := some 23) (v := .bool true) (a' := ?_) rfl (by rfl) (fun w' _ => by go_simp; (try simp only [i64_w]); first | exact P0.out | (have h_ := P0.out; omega) | exact cmp_ P0.out | exact cmpd_ P0.out | exact cmpf_ P0.out) ?_ ?_
  rotate_left
  · simp only [Act.put, List.setIfInBounds_toArray, List.set_cons_zero, List.set_cons_succ]
    rfl
  refine wstep (N := some 24) (v := .bool true) (a' := ?_) rfl (by rfl) (fun w' _ => by go_simp) ?_ ?_
  rotate_left
  · simp only [Act.put, List.setIfInBounds_toArray, List.set_cons_zero, List.set_cons_succ]
    rfl
  refine wstep (N := some 25) (v := .bool true) (a' := ?_) rfl (by rfl) (fun w' _ => by go_simp) ?_ ?_
  rotate_left
  · simp only [Act.put, List.setIfInBounds_toArray, List.set_cons_zero, List.set_cons_succ]
    rfl
  refine wskip (N := some 26) (a' := ?_) rfl (by rfl) ?_ ?_
  rotate_left
  · simp only [Act.put, List.setIfInBounds_toArray, List.set_cons_zero, List.set_cons_succ]
    rfl
  refine wskip (N := some 27) (a' := ?_) rfl (by rfl) ?_ ?_
  rotate_left
  · simp only [Act.put, List.setIfInBounds_toArray, List.set_cons_zero, List.set_cons_succ]
    rfl
  refine wstep (N := some 28) (v := .bool true) (a' := ?_) rfl (by rfl) (fun w' _ => by go_simp) ?_ ?_
  rotate_left
  · simp only [Act.put, List.setIfInBounds_toArray, List.set_cons_zero, List.set_cons_succ]
    rfl
  refine wstep (N := some 29) (v := .bool true) (a' := ?_) rfl (by rfl) (fun w' _ => by go_simp) ?_ ?_
  rotate_left
  · simp only [Act.put, List.setIfInBounds_toArray, List.set_cons_zero, List.set_cons_succ]
    rfl
  refine wskip (N := some 30) (a' := ?_) rfl (by rfl) ?_ ?_
  rotate_left
  · simp only [Act.put, List.setIfInBounds_toArray, List.set_cons_zero, List.set_cons_succ]
    rfl
  refine wskip (N := some 31) (a' := ?_) rfl (by rfl) ?_ ?_
  rotate_left
  · simp only [Act.put, List.setIfInBounds_toArray, List.set_cons_zero, List.set_cons_succ]
    rfl
  refine wstep (N := some 32) (v := .bool true) (a' := ?_) rfl (by rfl) (fun w' _ => by go_simp) ?_ ?_
  rotate_left
  · simp only [Act.put, List.setIfInBounds_toArray, List.set_cons_zero, List.set_cons_succ]
    rfl
  refine wstep (N := some 33) (v := .bool true) (a' := ?_) rfl (by rfl) (fun w' _ => by go_simp) ?_ ?_
  rotate_left
  · simp only [Act.put, List.setIfInBounds_toArray, List.set_cons_zero, List.set_cons_succ]
    rfl
  refine wskip (N := some 34) (a' := ?_) rfl (by rfl) ?_ ?_
  rotate_left
  · simp only [Act.put, List.setIfInBounds_toArray, List.set_cons_zero, List.set_cons_succ]
    rfl
  refine wskip (N := some 35) (a' := ?_) rfl (by rfl) ?_ ?_
  rotate_left
  · simp only [Act.put, List.setIfInBounds_toArray, List.set_cons_zero, List.set_cons_succ]
    rfl
  refine wstep (N := some 36) (v := .bool true) (a' := ?_) rfl (by rfl) (fun w' _ => by go_simp) ?_ ?_
  rotate_left
  · simp only [Act.put, List.setIfInBounds_toArray, List.set_cons_zero, List.set_cons_succ]
    rfl
  refine wstep (N := some 37) (v := .bool true) (a' := ?_) rfl (by rfl) (fun w' _ => by go_simp) ?_ ?_
  rotate_left
  · simp only [Act.put, List.setIfInBounds_toArray, List.set_cons_zero, List.set_cons_succ]
    rfl
  refine wskip (N := some 38) (a' := ?_) rfl (by rfl) ?_ ?_
  rotate_left
  · simp only [Act.put, List.setIfInBounds_toArray, List.set_cons_zero, List.set_cons_succ]
    rfl
  refine wskip (N := some 39) (a' := ?_) rfl (by rfl) ?_ ?_
  rotate_left
  · simp only [Act.put, List.setIfInBounds_toArray, List.set_cons_zero, List.set_cons_succ]
    rfl
  refine wstep (N := some 40) (v := .bool true) (a' := ?_) rfl (by rfl) (fun w' _ => by go_simp) ?_ ?_
  rotate_left
  · simp only [Act.put, List.setIfInBounds_toArray, List.set_cons_zero, List.set_cons_succ]
    rfl
  refine wstep (N := some 41) (v := .bool true) (a' := ?_) rfl (by rfl) (fun w' _ => by go_simp) ?_ ?_
  rotate_left
  · simp only [Act.put, List.setIfInBounds_toArray, List.set_cons_zero, List.set_cons_succ]
    rfl
  refine wskip (N := some 42) (a' := ?_) rfl (by rfl) ?_ ?_
  rotate_left
  · simp only [Act.put, List.setIfInBounds_toArray, List.set_cons_zero, List.set_cons_succ]
    rfl
  refine wskip (N := some 43) (a' := ?_) rfl (by rfl) ?_ ?_
  rotate_left
  · simp only [Act.put, List.setIfInBounds_toArray, List.set_cons_zero, List.set_cons_succ]
    rfl
  refine wstep (N := some 44) (v := .bool true) (a' := ?_) rfl (by rfl) (fun w' _ => by go_simp) ?_ ?_
  rotate_left
  · simp only [Act.put, List.setIfInBounds_toArray, List.set_cons_zero, List.set_cons_succ]
    rfl
  refine wstep (N := some 45) (v := .bool true) (a' := ?_) rfl (by rfl) (fun w' _ => by go_simp) ?_ ?_
  rotate_left
  · simp only [Act.put, List.setIfInBounds_toArray, List.set_cons_zero, List.set_cons_succ]
    rfl
  refine wskip (N := some 46) (a' := ?_) rfl (by rfl) ?_ ?_
  rotate_left
  · simp only [Act.put, List.setIfInBounds_toArray, List.set_cons_zero, List.set_cons_succ]
    rfl
  refine wskip (N := some 47) (a' := ?_) rfl (by rfl) ?_ ?_
  rotate_left
  · simp only [Act.put, List.setIfInBounds_toArray, List.set_cons_zero, List.set_cons_succ]
    rfl
  refine wstep (N := some 48) (v := .bool true) (a' := ?_) rfl (by rfl) (fun w' _ => by go_simp) ?_ ?_
  rotate_left
  · simp only [Act.put, List.setIfInBounds_toArray, List.set_cons_zero, List.set_cons_succ]
    rfl
  refine wstep (N := some 49) (v := .bool true) (a' := ?_) rfl (by rfl) (fun w' _ => by go_simp) ?_ ?_
  rotate_left
  · simp only [Act.put, List.setIfInBounds_toArray, List.set_cons_zero, List.set_cons_succ]
    rfl
  refine wskip (N := some 50) (a' := ?_) rfl (by rfl) ?_ ?_
  rotate_left
  · simp only [Act.put, List.setIfInBounds_toArray, List.set_cons_zero, List.set_cons_succ]
    rfl
  refine wskip (N := some 51) (a' := ?_) rfl (by rfl) ?_ ?_
  rotate_left
  · simp only [Act.put, List.setIfInBounds_toArray, List.set_cons_zero, List.set_cons_succ]
    rfl
  refine wskip (N := some 52) (a' := ?_) rfl (by rfl) ?_ ?_
  rotate_left
  · simp only [Act.put, List.setIfInBounds_toArray, List.set_cons_zero, List.set_cons_succ]
    rfl
  refine wskip (N := some 53) (a' := ?_) rfl (by rfl) ?_ ?_
  rotate_left
  · simp only [Act.put, List.setIfInBounds_toArray, List.set_cons_zero, List.set_cons_succ]
    rfl
  refine wstep (N := some 54) (v := .bool true) (a' := ?_) rfl (by rfl) (fun w' _ => by go_simp) ?_ ?_
  rotate_left
  · simp only [Act.put, List.setIfInBounds_toArray, List.set_cons_zero, List.set_cons_succ]
    rfl
  refine wstep (N := some 55) (v := .bool true) (a' := ?_) rfl (by rfl) (fun w' _ => by go_simp) ?_ ?_
  rotate_left
  · simp only [Act.put, List.setIfInBounds_toArray, List.set_cons_zero, List.set_cons_succ]
    rfl
  refine wskip (N := some 56) (a' := ?_) rfl (by rfl) ?_ ?_
  rotate_left
  · simp only [Act.put, List.setIfInBounds_toArray, List.set_cons_zero, List.set_cons_succ]
    rfl
  refine wskip (N := some 57) (a' := ?_) rfl (by rfl) ?_ ?_
  rotate_left
  · simp only [Act.put, List.setIfInBounds_toArray, List.set_cons_zero, List.set_cons_succ]
    rfl
  refine wstep (N := some 58) (v := .bool true) (a' := ?_) rfl (by rfl) (fun w' _ => by go_simp) ?_ ?_
  rotate_left
  · simp only [Act.put, List.setIfInBounds_toArray, List.set_cons_zero, List.set_cons_succ]
    rfl
  refine wstep (N := some 59) (v := .bool true) (a' := ?_) rfl (by rfl) (fun w' _ => by go_simp) ?_ ?_
  rotate_left
  · simp only [Act.put, List.setIfInBounds_toArray, List.set_cons_zero, List.set_cons_succ]
    rfl
  refine wskip (N := some 60) (a' := ?_) rfl (by rfl) ?_ ?_
  rotate_left
  · simp only [Act.put, List.setIfInBounds_toArray, List.set_cons_zero, List.set_cons_succ]
    rfl
  refine wskip (N := some 61) (a' := ?_) rfl (by rfl) ?_ ?_
  rotate_left
  · simp only [Act.put, List.setIfInBounds_toArray, List.set_cons_zero, List.set_cons_succ]
    rfl
  refine wstep (N := some 62) (v := .bool true) (a' := ?_) rfl (by rfl) (fun w' _ => by go_simp) ?_ ?_
  rotate_left
  · simp only [Act.put, List.setIfInBounds_toArray, List.set_cons_zero, List.set_cons_succ]
    rfl
  refine wnil ?_
  intro w_h1 h1_
  have h1 := Aside0.mk h1_
  clear h1_
  go_wp2
  go_ret
  exact ⟨rfl, h1.out.below⟩

set_option maxHeartbeats 4000000 in
set_option maxRecDepth 100000 in
theorem early2 (cs : Array Value) (ts : Array Value) (issued : Int) (e : Int) (later : Int) (ay : Int) (ny : Int) (su : Int) (cs0 cs1 cs2 cs3 cs4 cs5 cs6 cs7 cs8 cs9 cs10 cs11 cs12 cs13 cs14 cs15 cs16 cs17 ts0 ts1 ts2 : Int)  (w : World) (HS_cs : Aside0 (cs.size = 18)) (HS_ts : Aside0 (ts.size = 3))
    (H22 : Aside0 (Rets Try.prog 22 #[.agg cs] (.bool true)))
    (P0 : Aside0 (¬ (e < 0)))
    (P1 : Aside0 (e > 1073741824)) :
    Calls Try.prog 5 #[.agg cs, .agg ts, .int .i64 issued, .int .i64 e, .int .i64 later, .int .i64 ay, .int .i64 ny, .int .i64 su] w fun e w' => e = .returned (.bool true) ∧ Below w.heap.size w w' := by
  have HCl : Aside0 (Cls w ((w.heap.size + 1, ts, 29) :: (w.heap.size, cs, 25) :: []) ((w.alloc (.cells cs 25 (0, 0))).alloc (.cells ts 29 (0, 0)))) := ⟨Cls.put2 w _ _ _ _⟩
  go_enter Try.func5, Try.ntmps5
  go_upto_region 1 with (fail)
  refine wregion_p (C := Cls w ((w.heap.size + 1, ts, 29) :: (w.heap.size, cs, 25) :: [])) (HCl.out) ?_
  refine wstep (N := some 18) (v := .agg cs) (a' := ?_) rfl (by rfl) (fun w' h => load_row (h.blk1) rfl rfl Try.underlying25 rfl (by rw [HS_cs.out]; exact info25)) ?_ ?_
  rotate_left
  · simp only [Act.put, List.setIfInBounds_toArray, List.set_cons_zero, List.set_cons_succ]
    rfl
  refine wcall (N := some 19) (a' := ?_) (f := 22) Try.func22 (by kernel_rfl) rfl #[.agg cs] (by rfl) rfl rfl (by (try simp only [List.map_toArray, List.map_cons, List.map_nil]); first | done | rfl) (qcall_cls (v := .bool true) H22.out) ?_ ?_
  rotate_left
  · simp only [Act.put, List.setIfInBounds_toArray, List.set_cons_zero, List.set_cons_succ]
    rfl
  refine wstep (N := some 20) (v := .bool false) (a' := ?_) rfl (by rfl) (fun w' _ => by go_simp) ?_ ?_
  rotate_left
  · simp only [Act.put, List.setIfInBounds_toArray, List.set_cons_zero, List.set_cons_succ]
    rfl
  refine wstep (N := some 21) (v := .bool false) (a' := ?_) rfl (by rfl) (fun w' _ => by go_simp) ?_ ?_
  rotate_left
  · simp only [Act.put, List.setIfInBounds_toArray, List.set_cons_zero, List.set_cons_succ]
    rfl
  refine wstep (N := some 22) (v := .int .i64 e) (a' := ?_) rfl (by rfl) (fun w' _ => by go_simp) ?_ ?_
  rotate_left
  · simp only [Act.put, List.setIfInBounds_toArray, List.set_cons_zero, List.set_cons_succ]
    rfl
  refine wstep (N := some 23) (v := .bool false) (a' := ?_) rfl (by rfl) (fun w' _ => by go_simp; (try simp only [i64_w]); first | exact P0.out | (have h_ := P0.out; omega) | exact cmp_ P0.out | exact cmpd_ P0.out | exact cmpf_ P0.out) ?_ ?_
  rotate_left
  · simp only [Act.put, List.setIfInBounds_toArray, List.set_cons_zero, List.set_cons_succ]
    rfl
  refine wstep (N := some 24) (v := .bool false) (a' := ?_) rfl (by rfl) (fun w' _ => by go_simp) ?_ ?_
  rotate_left
  · simp only [Act.put, List.setIfInBounds_toArray, List.set_cons_zero, List.set_cons_succ]
    rfl
  refine wstep (N := some 25) (v := .bool false) (a' := ?_) rfl (by rfl) (fun w' _ => by go_simp) ?_ ?_
  rotate_left
  · simp only [Act.put, List.setIfInBounds_toArray, List.set_cons_zero, List.set_cons_succ]
    rfl
  refine wstep (N := some 26) (v := .int .i64 e) (a' := ?_) rfl (by rfl) (fun w' _ => by go_simp) ?_ ?_
  rotate_left
  · simp only [Act.put, List.setIfInBounds_toArray, List.set_cons_zero, List.set_cons_succ]
    rfl
  refine wstep (N := some 27) (v := .bool true) (a' := ?_) rfl (by rfl) (fun w' _ => by go_simp; (try simp only [i64_w]); first | exact P1.out | (have h_ := P1.out; omega) | exact cmp_ P1.out | exact cmpd_ P1.out | exact cmpf_ P1.out) ?_ ?_
  rotate_left
  · simp only [Act.put, List.setIfInBounds_toArray, List.set_cons_zero, List.set_cons_succ]
    rfl
  refine wstep (N := some 28) (v := .bool true) (a' := ?_) rfl (by rfl) (fun w' _ => by go_simp) ?_ ?_
  rotate_left
  · simp only [Act.put, List.setIfInBounds_toArray, List.set_cons_zero, List.set_cons_succ]
    rfl
  refine wstep (N := some 29) (v := .bool true) (a' := ?_) rfl (by rfl) (fun w' _ => by go_simp) ?_ ?_
  rotate_left
  · simp only [Act.put, List.setIfInBounds_toArray, List.set_cons_zero, List.set_cons_succ]
    rfl
  refine wskip (N := some 30) (a' := ?_) rfl (by rfl) ?_ ?_
  rotate_left
  · simp only [Act.put, List.setIfInBounds_toArray, List.set_cons_zero, List.set_cons_succ]
    rfl
  refine wskip (N := some 31) (a' := ?_) rfl (by rfl) ?_ ?_
  rotate_left
  · simp only [Act.put, List.setIfInBounds_toArray, List.set_cons_zero, List.set_cons_succ]
    rfl
  refine wstep (N := some 32) (v := .bool true) (a' := ?_) rfl (by rfl) (fun w' _ => by go_simp) ?_ ?_
  rotate_left
  · simp only [Act.put, List.setIfInBounds_toArray, List.set_cons_zero, List.set_cons_succ]
    rfl
  refine wstep (N := some 33) (v := .bool true) (a' := ?_) rfl (by rfl) (fun w' _ => by go_simp) ?_ ?_
  rotate_left
  · simp only [Act.put, List.setIfInBounds_toArray, List.set_cons_zero, List.set_cons_succ]
    rfl
  refine wskip (N := some 34) (a' := ?_) rfl (by rfl) ?_ ?_
  rotate_left
  · simp only [Act.put, List.setIfInBounds_toArray, List.set_cons_zero, List.set_cons_succ]
    rfl
  refine wskip (N := some 35) (a' := ?_) rfl (by rfl) ?_ ?_
  rotate_left
  · simp only [Act.put, List.setIfInBounds_toArray, List.set_cons_zero, List.set_cons_succ]
    rfl
  refine wstep (N := some 36) (v := .bool true) (a' := ?_) rfl (by rfl) (fun w' _ => by go_simp) ?_ ?_
  rotate_left
  · simp only [Act.put, List.setIfInBounds_toArray, List.set_cons_zero, List.set_cons_succ]
    rfl
  refine wstep (N := some 37) (v := .bool true) (a' := ?_) rfl (by rfl) (fun w' _ => by go_simp) ?_ ?_
  rotate_left
  · simp only [Act.put, List.setIfInBounds_toArray, List.set_cons_zero, List.set_cons_succ]
    rfl
  refine wskip (N := some 38) (a' := ?_) rfl (by rfl) ?_ ?_
  rotate_left
  · simp only [Act.put, List.setIfInBounds_toArray, List.set_cons_zero, List.set_cons_succ]
    rfl
  refine wskip (N := some 39) (a' := ?_) rfl (by rfl) ?_ ?_
  rotate_left
  · simp only [Act.put, List.setIfInBounds_toArray, List.set_cons_zero, List.set_cons_succ]
    rfl
  refine wstep (N := some 40) (v := .bool true) (a' := ?_) rfl (by rfl) (fun w' _ => by go_simp) ?_ ?_
  rotate_left
  · simp only [Act.put, List.setIfInBounds_toArray, List.set_cons_zero, List.set_cons_succ]
    rfl
  refine wstep (N := some 41) (v := .bool true) (a' := ?_) rfl (by rfl) (fun w' _ => by go_simp) ?_ ?_
  rotate_left
  · simp only [Act.put, List.setIfInBounds_toArray, List.set_cons_zero, List.set_cons_succ]
    rfl
  refine wskip (N := some 42) (a' := ?_) rfl (by rfl) ?_ ?_
  rotate_left
  · simp only [Act.put, List.setIfInBounds_toArray, List.set_cons_zero, List.set_cons_succ]
    rfl
  refine wskip (N := some 43) (a' := ?_) rfl (by rfl) ?_ ?_
  rotate_left
  · simp only [Act.put, List.setIfInBounds_toArray, List.set_cons_zero, List.set_cons_succ]
    rfl
  refine wstep (N := some 44) (v := .bool true) (a' := ?_) rfl (by rfl) (fun w' _ => by go_simp) ?_ ?_
  rotate_left
  · simp only [Act.put, List.setIfInBounds_toArray, List.set_cons_zero, List.set_cons_succ]
    rfl
  refine wstep (N := some 45) (v := .bool true) (a' := ?_) rfl (by rfl) (fun w' _ => by go_simp) ?_ ?_
  rotate_left
  · simp only [Act.put, List.setIfInBounds_toArray, List.set_cons_zero, List.set_cons_succ]
    rfl
  refine wskip (N := some 46) (a' := ?_) rfl (by rfl) ?_ ?_
  rotate_left
  · simp only [Act.put, List.setIfInBounds_toArray, List.set_cons_zero, List.set_cons_succ]
    rfl
  refine wskip (N := some 47) (a' := ?_) rfl (by rfl) ?_ ?_
  rotate_left
  · simp only [Act.put, List.setIfInBounds_toArray, List.set_cons_zero, List.set_cons_succ]
    rfl
  refine wstep (N := some 48) (v := .bool true) (a' := ?_) rfl (by rfl) (fun w' _ => by go_simp) ?_ ?_
  rotate_left
  · simp only [Act.put, List.setIfInBounds_toArray, List.set_cons_zero, List.set_cons_succ]
    rfl
  refine wstep (N := some 49) (v := .bool true) (a' := ?_) rfl (by rfl) (fun w' _ => by go_simp) ?_ ?_
  rotate_left
  · simp only [Act.put, List.setIfInBounds_toArray, List.set_cons_zero, List.set_cons_succ]
    rfl
  refine wskip (N := some 50) (a' := ?_) rfl (by rfl) ?_ ?_
  rotate_left
  · simp only [Act.put, List.setIfInBounds_toArray, List.set_cons_zero, List.set_cons_succ]
    rfl
  refine wskip (N := some 51) (a' := ?_) rfl (by rfl) ?_ ?_
  rotate_left
  · simp only [Act.put, List.setIfInBounds_toArray, List.set_cons_zero, List.set_cons_succ]
    rfl
  refine wskip (N := some 52) (a' := ?_) rfl (by rfl) ?_ ?_
  rotate_left
  · simp only [Act.put, List.setIfInBounds_toArray, List.set_cons_zero, List.set_cons_succ]
    rfl
  refine wskip (N := some 53) (a' := ?_) rfl (by rfl) ?_ ?_
  rotate_left
  · simp only [Act.put, List.setIfInBounds_toArray, List.set_cons_zero, List.set_cons_succ]
    rfl
  refine wstep (N := some 54) (v := .bool true) (a' := ?_) rfl (by rfl) (fun w' _ => by go_simp) ?_ ?_
  rotate_left
  · simp only [Act.put, List.setIfInBounds_toArray, List.set_cons_zero, List.set_cons_succ]
    rfl
  refine wstep (N := some 55) (v := .bool true) (a' := ?_) rfl (by rfl) (fun w' _ => by go_simp) ?_ ?_
  rotate_left
  · simp only [Act.put, List.setIfInBounds_toArray, List.set_cons_zero, List.set_cons_succ]
    rfl
  refine wskip (N := some 56) (a' := ?_) rfl (by rfl) ?_ ?_
  rotate_left
  · simp only [Act.put, List.setIfInBounds_toArray, List.set_cons_zero, List.set_cons_succ]
    rfl
  refine wskip (N := some 57) (a' := ?_) rfl (by rfl) ?_ ?_
  rotate_left
  · simp only [Act.put, List.setIfInBounds_toArray, List.set_cons_zero, List.set_cons_succ]
    rfl
  refine wstep (N := some 58) (v := .bool true) (a' := ?_) rfl (by rfl) (fun w' _ => by go_simp) ?_ ?_
  rotate_left
  · simp only [Act.put, List.setIfInBounds_toArray, List.set_cons_zero, List.set_cons_succ]
    rfl
  refine wstep (N := some 59) (v := .bool true) (a' := ?_) rfl (by rfl) (fun w' _ => by go_simp) ?_ ?_
  rotate_left
  · simp only [Act.put, List.setIfInBounds_toArray, List.set_cons_zero, List.set_cons_succ]
    rfl
  refine wskip (N := some 60) (a' := ?_) rfl (by rfl) ?_ ?_
  rotate_left
  · simp only [Act.put, List.setIfInBounds_toArray, List.set_cons_zero, List.set_cons_succ]
    rfl
  refine wskip (N := some 61) (a' := ?_) rfl (by rfl) ?_ ?_
  rotate_left
  · simp only [Act.put, List.setIfInBounds_toArray, List.set_cons_zero, List.set_cons_succ]
    rfl
  refine wstep (N := some 62) (v := .bool true) (a' := ?_) rfl (by rfl) (fun w' _ => by go_simp) ?_ ?_
  rotate_left
  · simp only [Act.put, List.setIfInBounds_toArray, List.set_cons_zero, List.set_cons_succ]
    rfl
  refine wnil ?_
  intro w_h1 h1_
  have h1 := Aside0.mk h1_
  clear h1_
  go_wp2
  go_ret
  exact ⟨rfl, h1.out.below⟩

set_option maxHeartbeats 4000000 in
set_option maxRecDepth 100000 in
theorem early3 (cs : Array Value) (ts : Array Value) (issued : Int) (e : Int) (later : Int) (ay : Int) (ny : Int) (su : Int) (cs0 cs1 cs2 cs3 cs4 cs5 cs6 cs7 cs8 cs9 cs10 cs11 cs12 cs13 cs14 cs15 cs16 cs17 ts0 ts1 ts2 : Int)  (w : World) (HS_cs : Aside0 (cs.size = 18)) (HS_ts : Aside0 (ts.size = 3))
    (H22 : Aside0 (Rets Try.prog 22 #[.agg cs] (.bool true)))
    (P0 : Aside0 (¬ (e < 0)))
    (P1 : Aside0 (¬ (e > 1073741824)))
    (P2 : Aside0 (later < 0)) :
    Calls Try.prog 5 #[.agg cs, .agg ts, .int .i64 issued, .int .i64 e, .int .i64 later, .int .i64 ay, .int .i64 ny, .int .i64 su] w fun e w' => e = .returned (.bool true) ∧ Below w.heap.size w w' := by
  have HCl : Aside0 (Cls w ((w.heap.size + 1, ts, 29) :: (w.heap.size, cs, 25) :: []) ((w.alloc (.cells cs 25 (0, 0))).alloc (.cells ts 29 (0, 0)))) := ⟨Cls.put2 w _ _ _ _⟩
  go_enter Try.func5, Try.ntmps5
  go_upto_region 1 with (fail)
  refine wregion_p (C := Cls w ((w.heap.size + 1, ts, 29) :: (w.heap.size, cs, 25) :: [])) (HCl.out) ?_
  refine wstep (N := some 18) (v := .agg cs) (a' := ?_) rfl (by rfl) (fun w' h => load_row (h.blk1) rfl rfl Try.underlying25 rfl (by rw [HS_cs.out]; exact info25)) ?_ ?_
  rotate_left
  · simp only [Act.put, List.setIfInBounds_toArray, List.set_cons_zero, List.set_cons_succ]
    rfl
  refine wcall (N := some 19) (a' := ?_) (f := 22) Try.func22 (by kernel_rfl) rfl #[.agg cs] (by rfl) rfl rfl (by (try simp only [List.map_toArray, List.map_cons, List.map_nil]); first | done | rfl) (qcall_cls (v := .bool true) H22.out) ?_ ?_
  rotate_left
  · simp only [Act.put, List.setIfInBounds_toArray, List.set_cons_zero, List.set_cons_succ]
    rfl
  refine wstep (N := some 20) (v := .bool false) (a' := ?_) rfl (by rfl) (fun w' _ => by go_simp) ?_ ?_
  rotate_left
  · simp only [Act.put, List.setIfInBounds_toArray, List.set_cons_zero, List.set_cons_succ]
    rfl
  refine wstep (N := some 21) (v := .bool false) (a' := ?_) rfl (by rfl) (fun w' _ => by go_simp) ?_ ?_
  rotate_left
  · simp only [Act.put, List.setIfInBounds_toArray, List.set_cons_zero, List.set_cons_succ]
    rfl
  refine wstep (N := some 22) (v := .int .i64 e) (a' := ?_) rfl (by rfl) (fun w' _ => by go_simp) ?_ ?_
  rotate_left
  · simp only [Act.put, List.setIfInBounds_toArray, List.set_cons_zero, List.set_cons_succ]
    rfl
  refine wstep (N := some 23) (v := .bool false) (a' := ?_) rfl (by rfl) (fun w' _ => by go_simp; (try simp only [i64_w]); first | exact P0.out | (have h_ := P0.out; omega) | exact cmp_ P0.out | exact cmpd_ P0.out | exact cmpf_ P0.out) ?_ ?_
  rotate_left
  · simp only [Act.put, List.setIfInBounds_toArray, List.set_cons_zero, List.set_cons_succ]
    rfl
  refine wstep (N := some 24) (v := .bool false) (a' := ?_) rfl (by rfl) (fun w' _ => by go_simp) ?_ ?_
  rotate_left
  · simp only [Act.put, List.setIfInBounds_toArray, List.set_cons_zero, List.set_cons_succ]
    rfl
  refine wstep (N := some 25) (v := .bool false) (a' := ?_) rfl (by rfl) (fun w' _ => by go_simp) ?_ ?_
  rotate_left
  · simp only [Act.put, List.setIfInBounds_toArray, List.set_cons_zero, List.set_cons_succ]
    rfl
  refine wstep (N := some 26) (v := .int .i64 e) (a' := ?_) rfl (by rfl) (fun w' _ => by go_simp) ?_ ?_
  rotate_left
  · simp only [Act.put, List.setIfInBounds_toArray, List.set_cons_zero, List.set_cons_succ]
    rfl
  refine wstep (N := some 27) (v := .bool false) (a' := ?_) rfl (by rfl) (fun w' _ => by go_simp; (try simp only [i64_w]); first | exact P1.out | (have h_ := P1.out; omega) | exact cmp_ P1.out | exact cmpd_ P1.out | exact cmpf_ P1.out) ?_ ?_
  rotate_left
  · simp only [Act.put, List.setIfInBounds_toArray, List.set_cons_zero, List.set_cons_succ]
    rfl
  refine wstep (N := some 28) (v := .bool false) (a' := ?_) rfl (by rfl) (fun w' _ => by go_simp) ?_ ?_
  rotate_left
  · simp only [Act.put, List.setIfInBounds_toArray, List.set_cons_zero, List.set_cons_succ]
    rfl
  refine wstep (N := some 29) (v := .bool false) (a' := ?_) rfl (by rfl) (fun w' _ => by go_simp) ?_ ?_
  rotate_left
  · simp only [Act.put, List.setIfInBounds_toArray, List.set_cons_zero, List.set_cons_succ]
    rfl
  refine wstep (N := some 30) (v := .int .i64 later) (a' := ?_) rfl (by rfl) (fun w' _ => by go_simp) ?_ ?_
  rotate_left
  · simp only [Act.put, List.setIfInBounds_toArray, List.set_cons_zero, List.set_cons_succ]
    rfl
  refine wstep (N := some 31) (v := .bool true) (a' := ?_) rfl (by rfl) (fun w' _ => by go_simp; (try simp only [i64_w]); first | exact P2.out | (have h_ := P2.out; omega) | exact cmp_ P2.out | exact cmpd_ P2.out | exact cmpf_ P2.out) ?_ ?_
  rotate_left
  · simp only [Act.put, List.setIfInBounds_toArray, List.set_cons_zero, List.set_cons_succ]
    rfl
  refine wstep (N := some 32) (v := .bool true) (a' := ?_) rfl (by rfl) (fun w' _ => by go_simp) ?_ ?_
  rotate_left
  · simp only [Act.put, List.setIfInBounds_toArray, List.set_cons_zero, List.set_cons_succ]
    rfl
  refine wstep (N := some 33) (v := .bool true) (a' := ?_) rfl (by rfl) (fun w' _ => by go_simp) ?_ ?_
  rotate_left
  · simp only [Act.put, List.setIfInBounds_toArray, List.set_cons_zero, List.set_cons_succ]
    rfl
  refine wskip (N := some 34) (a' := ?_) rfl (by rfl) ?_ ?_
  rotate_left
  · simp only [Act.put, List.setIfInBounds_toArray, List.set_cons_zero, List.set_cons_succ]
    rfl
  refine wskip (N := some 35) (a' := ?_) rfl (by rfl) ?_ ?_
  rotate_left
  · simp only [Act.put, List.setIfInBounds_toArray, List.set_cons_zero, List.set_cons_succ]
    rfl
  refine wstep (N := some 36) (v := .bool true) (a' := ?_) rfl (by rfl) (fun w' _ => by go_simp) ?_ ?_
  rotate_left
  · simp only [Act.put, List.setIfInBounds_toArray, List.set_cons_zero, List.set_cons_succ]
    rfl
  refine wstep (N := some 37) (v := .bool true) (a' := ?_) rfl (by rfl) (fun w' _ => by go_simp) ?_ ?_
  rotate_left
  · simp only [Act.put, List.setIfInBounds_toArray, List.set_cons_zero, List.set_cons_succ]
    rfl
  refine wskip (N := some 38) (a' := ?_) rfl (by rfl) ?_ ?_
  rotate_left
  · simp only [Act.put, List.setIfInBounds_toArray, List.set_cons_zero, List.set_cons_succ]
    rfl
  refine wskip (N := some 39) (a' := ?_) rfl (by rfl) ?_ ?_
  rotate_left
  · simp only [Act.put, List.setIfInBounds_toArray, List.set_cons_zero, List.set_cons_succ]
    rfl
  refine wstep (N := some 40) (v := .bool true) (a' := ?_) rfl (by rfl) (fun w' _ => by go_simp) ?_ ?_
  rotate_left
  · simp only [Act.put, List.setIfInBounds_toArray, List.set_cons_zero, List.set_cons_succ]
    rfl
  refine wstep (N := some 41) (v := .bool true) (a' := ?_) rfl (by rfl) (fun w' _ => by go_simp) ?_ ?_
  rotate_left
  · simp only [Act.put, List.setIfInBounds_toArray, List.set_cons_zero, List.set_cons_succ]
    rfl
  refine wskip (N := some 42) (a' := ?_) rfl (by rfl) ?_ ?_
  rotate_left
  · simp only [Act.put, List.setIfInBounds_toArray, List.set_cons_zero, List.set_cons_succ]
    rfl
  refine wskip (N := some 43) (a' := ?_) rfl (by rfl) ?_ ?_
  rotate_left
  · simp only [Act.put, List.setIfInBounds_toArray, List.set_cons_zero, List.set_cons_succ]
    rfl
  refine wstep (N := some 44) (v := .bool true) (a' := ?_) rfl (by rfl) (fun w' _ => by go_simp) ?_ ?_
  rotate_left
  · simp only [Act.put, List.setIfInBounds_toArray, List.set_cons_zero, List.set_cons_succ]
    rfl
  refine wstep (N := some 45) (v := .bool true) (a' := ?_) rfl (by rfl) (fun w' _ => by go_simp) ?_ ?_
  rotate_left
  · simp only [Act.put, List.setIfInBounds_toArray, List.set_cons_zero, List.set_cons_succ]
    rfl
  refine wskip (N := some 46) (a' := ?_) rfl (by rfl) ?_ ?_
  rotate_left
  · simp only [Act.put, List.setIfInBounds_toArray, List.set_cons_zero, List.set_cons_succ]
    rfl
  refine wskip (N := some 47) (a' := ?_) rfl (by rfl) ?_ ?_
  rotate_left
  · simp only [Act.put, List.setIfInBounds_toArray, List.set_cons_zero, List.set_cons_succ]
    rfl
  refine wstep (N := some 48) (v := .bool true) (a' := ?_) rfl (by rfl) (fun w' _ => by go_simp) ?_ ?_
  rotate_left
  · simp only [Act.put, List.setIfInBounds_toArray, List.set_cons_zero, List.set_cons_succ]
    rfl
  refine wstep (N := some 49) (v := .bool true) (a' := ?_) rfl (by rfl) (fun w' _ => by go_simp) ?_ ?_
  rotate_left
  · simp only [Act.put, List.setIfInBounds_toArray, List.set_cons_zero, List.set_cons_succ]
    rfl
  refine wskip (N := some 50) (a' := ?_) rfl (by rfl) ?_ ?_
  rotate_left
  · simp only [Act.put, List.setIfInBounds_toArray, List.set_cons_zero, List.set_cons_succ]
    rfl
  refine wskip (N := some 51) (a' := ?_) rfl (by rfl) ?_ ?_
  rotate_left
  · simp only [Act.put, List.setIfInBounds_toArray, List.set_cons_zero, List.set_cons_succ]
    rfl
  refine wskip (N := some 52) (a' := ?_) rfl (by rfl) ?_ ?_
  rotate_left
  · simp only [Act.put, List.setIfInBounds_toArray, List.set_cons_zero, List.set_cons_succ]
    rfl
  refine wskip (N := some 53) (a' := ?_) rfl (by rfl) ?_ ?_
  rotate_left
  · simp only [Act.put, List.setIfInBounds_toArray, List.set_cons_zero, List.set_cons_succ]
    rfl
  refine wstep (N := some 54) (v := .bool true) (a' := ?_) rfl (by rfl) (fun w' _ => by go_simp) ?_ ?_
  rotate_left
  · simp only [Act.put, List.setIfInBounds_toArray, List.set_cons_zero, List.set_cons_succ]
    rfl
  refine wstep (N := some 55) (v := .bool true) (a' := ?_) rfl (by rfl) (fun w' _ => by go_simp) ?_ ?_
  rotate_left
  · simp only [Act.put, List.setIfInBounds_toArray, List.set_cons_zero, List.set_cons_succ]
    rfl
  refine wskip (N := some 56) (a' := ?_) rfl (by rfl) ?_ ?_
  rotate_left
  · simp only [Act.put, List.setIfInBounds_toArray, List.set_cons_zero, List.set_cons_succ]
    rfl
  refine wskip (N := some 57) (a' := ?_) rfl (by rfl) ?_ ?_
  rotate_left
  · simp only [Act.put, List.setIfInBounds_toArray, List.set_cons_zero, List.set_cons_succ]
    rfl
  refine wstep (N := some 58) (v := .bool true) (a' := ?_) rfl (by rfl) (fun w' _ => by go_simp) ?_ ?_
  rotate_left
  · simp only [Act.put, List.setIfInBounds_toArray, List.set_cons_zero, List.set_cons_succ]
    rfl
  refine wstep (N := some 59) (v := .bool true) (a' := ?_) rfl (by rfl) (fun w' _ => by go_simp) ?_ ?_
  rotate_left
  · simp only [Act.put, List.setIfInBounds_toArray, List.set_cons_zero, List.set_cons_succ]
    rfl
  refine wskip (N := some 60) (a' := ?_) rfl (by rfl) ?_ ?_
  rotate_left
  · simp only [Act.put, List.setIfInBounds_toArray, List.set_cons_zero, List.set_cons_succ]
    rfl
  refine wskip (N := some 61) (a' := ?_) rfl (by rfl) ?_ ?_
  rotate_left
  · simp only [Act.put, List.setIfInBounds_toArray, List.set_cons_zero, List.set_cons_succ]
    rfl
  refine wstep (N := some 62) (v := .bool true) (a' := ?_) rfl (by rfl) (fun w' _ => by go_simp) ?_ ?_
  rotate_left
  · simp only [Act.put, List.setIfInBounds_toArray, List.set_cons_zero, List.set_cons_succ]
    rfl
  refine wnil ?_
  intro w_h1 h1_
  have h1 := Aside0.mk h1_
  clear h1_
  go_wp2
  go_ret
  exact ⟨rfl, h1.out.below⟩

set_option maxHeartbeats 4000000 in
set_option maxRecDepth 100000 in
theorem early4 (cs : Array Value) (ts : Array Value) (issued : Int) (e : Int) (later : Int) (ay : Int) (ny : Int) (su : Int) (cs0 cs1 cs2 cs3 cs4 cs5 cs6 cs7 cs8 cs9 cs10 cs11 cs12 cs13 cs14 cs15 cs16 cs17 ts0 ts1 ts2 : Int)  (w : World) (HS_cs : Aside0 (cs.size = 18)) (HS_ts : Aside0 (ts.size = 3))
    (H22 : Aside0 (Rets Try.prog 22 #[.agg cs] (.bool true)))
    (P0 : Aside0 (¬ (e < 0)))
    (P1 : Aside0 (¬ (e > 1073741824)))
    (P2 : Aside0 (¬ (later < 0)))
    (P3 : Aside0 (later > 1048576)) :
    Calls Try.prog 5 #[.agg cs, .agg ts, .int .i64 issued, .int .i64 e, .int .i64 later, .int .i64 ay, .int .i64 ny, .int .i64 su] w fun e w' => e = .returned (.bool true) ∧ Below w.heap.size w w' := by
  have HCl : Aside0 (Cls w ((w.heap.size + 1, ts, 29) :: (w.heap.size, cs, 25) :: []) ((w.alloc (.cells cs 25 (0, 0))).alloc (.cells ts 29 (0, 0)))) := ⟨Cls.put2 w _ _ _ _⟩
  go_enter Try.func5, Try.ntmps5
  go_upto_region 1 with (fail)
  refine wregion_p (C := Cls w ((w.heap.size + 1, ts, 29) :: (w.heap.size, cs, 25) :: [])) (HCl.out) ?_
  refine wstep (N := some 18) (v := .agg cs) (a' := ?_) rfl (by rfl) (fun w' h => load_row (h.blk1) rfl rfl Try.underlying25 rfl (by rw [HS_cs.out]; exact info25)) ?_ ?_
  rotate_left
  · simp only [Act.put, List.setIfInBounds_toArray, List.set_cons_zero, List.set_cons_succ]
    rfl
  refine wcall (N := some 19) (a' := ?_) (f := 22) Try.func22 (by kernel_rfl) rfl #[.agg cs] (by rfl) rfl rfl (by (try simp only [List.map_toArray, List.map_cons, List.map_nil]); first | done | rfl) (qcall_cls (v := .bool true) H22.out) ?_ ?_
  rotate_left
  · simp only [Act.put, List.setIfInBounds_toArray, List.set_cons_zero, List.set_cons_succ]
    rfl
  refine wstep (N := some 20) (v := .bool false) (a' := ?_) rfl (by rfl) (fun w' _ => by go_simp) ?_ ?_
  rotate_left
  · simp only [Act.put, List.setIfInBounds_toArray, List.set_cons_zero, List.set_cons_succ]
    rfl
  refine wstep (N := some 21) (v := .bool false) (a' := ?_) rfl (by rfl) (fun w' _ => by go_simp) ?_ ?_
  rotate_left
  · simp only [Act.put, List.setIfInBounds_toArray, List.set_cons_zero, List.set_cons_succ]
    rfl
  refine wstep (N := some 22) (v := .int .i64 e) (a' := ?_) rfl (by rfl) (fun w' _ => by go_simp) ?_ ?_
  rotate_left
  · simp only [Act.put, List.setIfInBounds_toArray, List.set_cons_zero, List.set_cons_succ]
    rfl
  refine wstep (N := some 23) (v := .bool false) (a' := ?_) rfl (by rfl) (fun w' _ => by go_simp; (try simp only [i64_w]); first | exact P0.out | (have h_ := P0.out; omega) | exact cmp_ P0.out | exact cmpd_ P0.out | exact cmpf_ P0.out) ?_ ?_
  rotate_left
  · simp only [Act.put, List.setIfInBounds_toArray, List.set_cons_zero, List.set_cons_succ]
    rfl
  refine wstep (N := some 24) (v := .bool false) (a' := ?_) rfl (by rfl) (fun w' _ => by go_simp) ?_ ?_
  rotate_left
  · simp only [Act.put, List.setIfInBounds_toArray, List.set_cons_zero, List.set_cons_succ]
    rfl
  refine wstep (N := some 25) (v := .bool false) (a' := ?_) rfl (by rfl) (fun w' _ => by go_simp) ?_ ?_
  rotate_left
  · simp only [Act.put, List.setIfInBounds_toArray, List.set_cons_zero, List.set_cons_succ]
    rfl
  refine wstep (N := some 26) (v := .int .i64 e) (a' := ?_) rfl (by rfl) (fun w' _ => by go_simp) ?_ ?_
  rotate_left
  · simp only [Act.put, List.setIfInBounds_toArray, List.set_cons_zero, List.set_cons_succ]
    rfl
  refine wstep (N := some 27) (v := .bool false) (a' := ?_) rfl (by rfl) (fun w' _ => by go_simp; (try simp only [i64_w]); first | exact P1.out | (have h_ := P1.out; omega) | exact cmp_ P1.out | exact cmpd_ P1.out | exact cmpf_ P1.out) ?_ ?_
  rotate_left
  · simp only [Act.put, List.setIfInBounds_toArray, List.set_cons_zero, List.set_cons_succ]
    rfl
  refine wstep (N := some 28) (v := .bool false) (a' := ?_) rfl (by rfl) (fun w' _ => by go_simp) ?_ ?_
  rotate_left
  · simp only [Act.put, List.setIfInBounds_toArray, List.set_cons_zero, List.set_cons_succ]
    rfl
  refine wstep (N := some 29) (v := .bool false) (a' := ?_) rfl (by rfl) (fun w' _ => by go_simp) ?_ ?_
  rotate_left
  · simp only [Act.put, List.setIfInBounds_toArray, List.set_cons_zero, List.set_cons_succ]
    rfl
  refine wstep (N := some 30) (v := .int .i64 later) (a' := ?_) rfl (by rfl) (fun w' _ => by go_simp) ?_ ?_
  rotate_left
  · simp only [Act.put, List.setIfInBounds_toArray, List.set_cons_zero, List.set_cons_succ]
    rfl
  refine wstep (N := some 31) (v := .bool false) (a' := ?_) rfl (by rfl) (fun w' _ => by go_simp; (try simp only [i64_w]); first | exact P2.out | (have h_ := P2.out; omega) | exact cmp_ P2.out | exact cmpd_ P2.out | exact cmpf_ P2.out) ?_ ?_
  rotate_left
  · simp only [Act.put, List.setIfInBounds_toArray, List.set_cons_zero, List.set_cons_succ]
    rfl
  refine wstep (N := some 32) (v := .bool false) (a' := ?_) rfl (by rfl) (fun w' _ => by go_simp) ?_ ?_
  rotate_left
  · simp only [Act.put, List.setIfInBounds_toArray, List.set_cons_zero, List.set_cons_succ]
    rfl
  refine wstep (N := some 33) (v := .bool false) (a' := ?_) rfl (by rfl) (fun w' _ => by go_simp) ?_ ?_
  rotate_left
  · simp only [Act.put, List.setIfInBounds_toArray, List.set_cons_zero, List.set_cons_succ]
    rfl
  refine wstep (N := some 34) (v := .int .i64 later) (a' := ?_) rfl (by rfl) (fun w' _ => by go_simp) ?_ ?_
  rotate_left
  · simp only [Act.put, List.setIfInBounds_toArray, List.set_cons_zero, List.set_cons_succ]
    rfl
  refine wstep (N := some 35) (v := .bool true) (a' := ?_) rfl (by rfl) (fun w' _ => by go_simp; (try simp only [i64_w]); first | exact P3.out | (have h_ := P3.out; omega) | exact cmp_ P3.out | exact cmpd_ P3.out | exact cmpf_ P3.out) ?_ ?_
  rotate_left
  · simp only [Act.put, List.setIfInBounds_toArray, List.set_cons_zero, List.set_cons_succ]
    rfl
  refine wstep (N := some 36) (v := .bool true) (a' := ?_) rfl (by rfl) (fun w' _ => by go_simp) ?_ ?_
  rotate_left
  · simp only [Act.put, List.setIfInBounds_toArray, List.set_cons_zero, List.set_cons_succ]
    rfl
  refine wstep (N := some 37) (v := .bool true) (a' := ?_) rfl (by rfl) (fun w' _ => by go_simp) ?_ ?_
  rotate_left
  · simp only [Act.put, List.setIfInBounds_toArray, List.set_cons_zero, List.set_cons_succ]
    rfl
  refine wskip (N := some 38) (a' := ?_) rfl (by rfl) ?_ ?_
  rotate_left
  · simp only [Act.put, List.setIfInBounds_toArray, List.set_cons_zero, List.set_cons_succ]
    rfl
  refine wskip (N := some 39) (a' := ?_) rfl (by rfl) ?_ ?_
  rotate_left
  · simp only [Act.put, List.setIfInBounds_toArray, List.set_cons_zero, List.set_cons_succ]
    rfl
  refine wstep (N := some 40) (v := .bool true) (a' := ?_) rfl (by rfl) (fun w' _ => by go_simp) ?_ ?_
  rotate_left
  · simp only [Act.put, List.setIfInBounds_toArray, List.set_cons_zero, List.set_cons_succ]
    rfl
  refine wstep (N := some 41) (v := .bool true) (a' := ?_) rfl (by rfl) (fun w' _ => by go_simp) ?_ ?_
  rotate_left
  · simp only [Act.put, List.setIfInBounds_toArray, List.set_cons_zero, List.set_cons_succ]
    rfl
  refine wskip (N := some 42) (a' := ?_) rfl (by rfl) ?_ ?_
  rotate_left
  · simp only [Act.put, List.setIfInBounds_toArray, List.set_cons_zero, List.set_cons_succ]
    rfl
  refine wskip (N := some 43) (a' := ?_) rfl (by rfl) ?_ ?_
  rotate_left
  · simp only [Act.put, List.setIfInBounds_toArray, List.set_cons_zero, List.set_cons_succ]
    rfl
  refine wstep (N := some 44) (v := .bool true) (a' := ?_) rfl (by rfl) (fun w' _ => by go_simp) ?_ ?_
  rotate_left
  · simp only [Act.put, List.setIfInBounds_toArray, List.set_cons_zero, List.set_cons_succ]
    rfl
  refine wstep (N := some 45) (v := .bool true) (a' := ?_) rfl (by rfl) (fun w' _ => by go_simp) ?_ ?_
  rotate_left
  · simp only [Act.put, List.setIfInBounds_toArray, List.set_cons_zero, List.set_cons_succ]
    rfl
  refine wskip (N := some 46) (a' := ?_) rfl (by rfl) ?_ ?_
  rotate_left
  · simp only [Act.put, List.setIfInBounds_toArray, List.set_cons_zero, List.set_cons_succ]
    rfl
  refine wskip (N := some 47) (a' := ?_) rfl (by rfl) ?_ ?_
  rotate_left
  · simp only [Act.put, List.setIfInBounds_toArray, List.set_cons_zero, List.set_cons_succ]
    rfl
  refine wstep (N := some 48) (v := .bool true) (a' := ?_) rfl (by rfl) (fun w' _ => by go_simp) ?_ ?_
  rotate_left
  · simp only [Act.put, List.setIfInBounds_toArray, List.set_cons_zero, List.set_cons_succ]
    rfl
  refine wstep (N := some 49) (v := .bool true) (a' := ?_) rfl (by rfl) (fun w' _ => by go_simp) ?_ ?_
  rotate_left
  · simp only [Act.put, List.setIfInBounds_toArray, List.set_cons_zero, List.set_cons_succ]
    rfl
  refine wskip (N := some 50) (a' := ?_) rfl (by rfl) ?_ ?_
  rotate_left
  · simp only [Act.put, List.setIfInBounds_toArray, List.set_cons_zero, List.set_cons_succ]
    rfl
  refine wskip (N := some 51) (a' := ?_) rfl (by rfl) ?_ ?_
  rotate_left
  · simp only [Act.put, List.setIfInBounds_toArray, List.set_cons_zero, List.set_cons_succ]
    rfl
  refine wskip (N := some 52) (a' := ?_) rfl (by rfl) ?_ ?_
  rotate_left
  · simp only [Act.put, List.setIfInBounds_toArray, List.set_cons_zero, List.set_cons_succ]
    rfl
  refine wskip (N := some 53) (a' := ?_) rfl (by rfl) ?_ ?_
  rotate_left
  · simp only [Act.put, List.setIfInBounds_toArray, List.set_cons_zero, List.set_cons_succ]
    rfl
  refine wstep (N := some 54) (v := .bool true) (a' := ?_) rfl (by rfl) (fun w' _ => by go_simp) ?_ ?_
  rotate_left
  · simp only [Act.put, List.setIfInBounds_toArray, List.set_cons_zero, List.set_cons_succ]
    rfl
  refine wstep (N := some 55) (v := .bool true) (a' := ?_) rfl (by rfl) (fun w' _ => by go_simp) ?_ ?_
  rotate_left
  · simp only [Act.put, List.setIfInBounds_toArray, List.set_cons_zero, List.set_cons_succ]
    rfl
  refine wskip (N := some 56) (a' := ?_) rfl (by rfl) ?_ ?_
  rotate_left
  · simp only [Act.put, List.setIfInBounds_toArray, List.set_cons_zero, List.set_cons_succ]
    rfl
  refine wskip (N := some 57) (a' := ?_) rfl (by rfl) ?_ ?_
  rotate_left
  · simp only [Act.put, List.setIfInBounds_toArray, List.set_cons_zero, List.set_cons_succ]
    rfl
  refine wstep (N := some 58) (v := .bool true) (a' := ?_) rfl (by rfl) (fun w' _ => by go_simp) ?_ ?_
  rotate_left
  · simp only [Act.put, List.setIfInBounds_toArray, List.set_cons_zero, List.set_cons_succ]
    rfl
  refine wstep (N := some 59) (v := .bool true) (a' := ?_) rfl (by rfl) (fun w' _ => by go_simp) ?_ ?_
  rotate_left
  · simp only [Act.put, List.setIfInBounds_toArray, List.set_cons_zero, List.set_cons_succ]
    rfl
  refine wskip (N := some 60) (a' := ?_) rfl (by rfl) ?_ ?_
  rotate_left
  · simp only [Act.put, List.setIfInBounds_toArray, List.set_cons_zero, List.set_cons_succ]
    rfl
  refine wskip (N := some 61) (a' := ?_) rfl (by rfl) ?_ ?_
  rotate_left
  · simp only [Act.put, List.setIfInBounds_toArray, List.set_cons_zero, List.set_cons_succ]
    rfl
  refine wstep (N := some 62) (v := .bool true) (a' := ?_) rfl (by rfl) (fun w' _ => by go_simp) ?_ ?_
  rotate_left
  · simp only [Act.put, List.setIfInBounds_toArray, List.set_cons_zero, List.set_cons_succ]
    rfl
  refine wnil ?_
  intro w_h1 h1_
  have h1 := Aside0.mk h1_
  clear h1_
  go_wp2
  go_ret
  exact ⟨rfl, h1.out.below⟩

set_option maxHeartbeats 4000000 in
set_option maxRecDepth 100000 in
theorem early5 (cs : Array Value) (ts : Array Value) (issued : Int) (e : Int) (later : Int) (ay : Int) (ny : Int) (su : Int) (cs0 cs1 cs2 cs3 cs4 cs5 cs6 cs7 cs8 cs9 cs10 cs11 cs12 cs13 cs14 cs15 cs16 cs17 ts0 ts1 ts2 : Int)  (w : World) (HS_cs : Aside0 (cs.size = 18)) (HS_ts : Aside0 (ts.size = 3))
    (H22 : Aside0 (Rets Try.prog 22 #[.agg cs] (.bool true)))
    (P0 : Aside0 (¬ (e < 0)))
    (P1 : Aside0 (¬ (e > 1073741824)))
    (P2 : Aside0 (¬ (later < 0)))
    (P3 : Aside0 (¬ (later > 1048576)))
    (P4 : Aside0 (ay < 0)) :
    Calls Try.prog 5 #[.agg cs, .agg ts, .int .i64 issued, .int .i64 e, .int .i64 later, .int .i64 ay, .int .i64 ny, .int .i64 su] w fun e w' => e = .returned (.bool true) ∧ Below w.heap.size w w' := by
  have HCl : Aside0 (Cls w ((w.heap.size + 1, ts, 29) :: (w.heap.size, cs, 25) :: []) ((w.alloc (.cells cs 25 (0, 0))).alloc (.cells ts 29 (0, 0)))) := ⟨Cls.put2 w _ _ _ _⟩
  go_enter Try.func5, Try.ntmps5
  go_upto_region 1 with (fail)
  refine wregion_p (C := Cls w ((w.heap.size + 1, ts, 29) :: (w.heap.size, cs, 25) :: [])) (HCl.out) ?_
  refine wstep (N := some 18) (v := .agg cs) (a' := ?_) rfl (by rfl) (fun w' h => load_row (h.blk1) rfl rfl Try.underlying25 rfl (by rw [HS_cs.out]; exact info25)) ?_ ?_
  rotate_left
  · simp only [Act.put, List.setIfInBounds_toArray, List.set_cons_zero, List.set_cons_succ]
    rfl
  refine wcall (N := some 19) (a' := ?_) (f := 22) Try.func22 (by kernel_rfl) rfl #[.agg cs] (by rfl) rfl rfl (by (try simp only [List.map_toArray, List.map_cons, List.map_nil]); first | done | rfl) (qcall_cls (v := .bool true) H22.out) ?_ ?_
  rotate_left
  · simp only [Act.put, List.setIfInBounds_toArray, List.set_cons_zero, List.set_cons_succ]
    rfl
  refine wstep (N := some 20) (v := .bool false) (a' := ?_) rfl (by rfl) (fun w' _ => by go_simp) ?_ ?_
  rotate_left
  · simp only [Act.put, List.setIfInBounds_toArray, List.set_cons_zero, List.set_cons_succ]
    rfl
  refine wstep (N := some 21) (v := .bool false) (a' := ?_) rfl (by rfl) (fun w' _ => by go_simp) ?_ ?_
  rotate_left
  · simp only [Act.put, List.setIfInBounds_toArray, List.set_cons_zero, List.set_cons_succ]
    rfl
  refine wstep (N := some 22) (v := .int .i64 e) (a' := ?_) rfl (by rfl) (fun w' _ => by go_simp) ?_ ?_
  rotate_left
  · simp only [Act.put, List.setIfInBounds_toArray, List.set_cons_zero, List.set_cons_succ]
    rfl
  refine wstep (N := some 23) (v := .bool false) (a' := ?_) rfl (by rfl) (fun w' _ => by go_simp; (try simp only [i64_w]); first | exact P0.out | (have h_ := P0.out; omega) | exact cmp_ P0.out | exact cmpd_ P0.out | exact cmpf_ P0.out) ?_ ?_
  rotate_left
  · simp only [Act.put, List.setIfInBounds_toArray, List.set_cons_zero, List.set_cons_succ]
    rfl
  refine wstep (N := some 24) (v := .bool false) (a' := ?_) rfl (by rfl) (fun w' _ => by go_simp) ?_ ?_
  rotate_left
  · simp only [Act.put, List.setIfInBounds_toArray, List.set_cons_zero, List.set_cons_succ]
    rfl
  refine wstep (N := some 25) (v := .bool false) (a' := ?_) rfl (by rfl) (fun w' _ => by go_simp) ?_ ?_
  rotate_left
  · simp only [Act.put, List.setIfInBounds_toArray, List.set_cons_zero, List.set_cons_succ]
    rfl
  refine wstep (N := some 26) (v := .int .i64 e) (a' := ?_) rfl (by rfl) (fun w' _ => by go_simp) ?_ ?_
  rotate_left
  · simp only [Act.put, List.setIfInBounds_toArray, List.set_cons_zero, List.set_cons_succ]
    rfl
  refine wstep (N := some 27) (v := .bool false) (a' := ?_) rfl (by rfl) (fun w' _ => by go_simp; (try simp only [i64_w]); first | exact P1.out | (have h_ := P1.out; omega) | exact cmp_ P1.out | exact cmpd_ P1.out | exact cmpf_ P1.out) ?_ ?_
  rotate_left
  · simp only [Act.put, List.setIfInBounds_toArray, List.set_cons_zero, List.set_cons_succ]
    rfl
  refine wstep (N := some 28) (v := .bool false) (a' := ?_) rfl (by rfl) (fun w' _ => by go_simp) ?_ ?_
  rotate_left
  · simp only [Act.put, List.setIfInBounds_toArray, List.set_cons_zero, List.set_cons_succ]
    rfl
  refine wstep (N := some 29) (v := .bool false) (a' := ?_) rfl (by rfl) (fun w' _ => by go_simp) ?_ ?_
  rotate_left
  · simp only [Act.put, List.setIfInBounds_toArray, List.set_cons_zero, List.set_cons_succ]
    rfl
  refine wstep (N := some 30) (v := .int .i64 later) (a' := ?_) rfl (by rfl) (fun w' _ => by go_simp) ?_ ?_
  rotate_left
  · simp only [Act.put, List.setIfInBounds_toArray, List.set_cons_zero, List.set_cons_succ]
    rfl
  refine wstep (N := some 31) (v := .bool false) (a' := ?_) rfl (by rfl) (fun w' _ => by go_simp; (try simp only [i64_w]); first | exact P2.out | (have h_ := P2.out; omega) | exact cmp_ P2.out | exact cmpd_ P2.out | exact cmpf_ P2.out) ?_ ?_
  rotate_left
  · simp only [Act.put, List.setIfInBounds_toArray, List.set_cons_zero, List.set_cons_succ]
    rfl
  refine wstep (N := some 32) (v := .bool false) (a' := ?_) rfl (by rfl) (fun w' _ => by go_simp) ?_ ?_
  rotate_left
  · simp only [Act.put, List.setIfInBounds_toArray, List.set_cons_zero, List.set_cons_succ]
    rfl
  refine wstep (N := some 33) (v := .bool false) (a' := ?_) rfl (by rfl) (fun w' _ => by go_simp) ?_ ?_
  rotate_left
  · simp only [Act.put, List.setIfInBounds_toArray, List.set_cons_zero, List.set_cons_succ]
    rfl
  refine wstep (N := some 34) (v := .int .i64 later) (a' := ?_) rfl (by rfl) (fun w' _ => by go_simp) ?_ ?_
  rotate_left
  · simp only [Act.put, List.setIfInBounds_toArray, List.set_cons_zero, List.set_cons_succ]
    rfl
  refine wstep (N := some 35) (v := .bool false) (a' := ?_) rfl (by rfl) (fun w' _ => by go_simp; (try simp only [i64_w]); first | exact P3.out | (have h_ := P3.out; omega) | exact cmp_ P3.out | exact cmpd_ P3.out | exact cmpf_ P3.out) ?_ ?_
  rotate_left
  · simp only [Act.put, List.setIfInBounds_toArray, List.set_cons_zero, List.set_cons_succ]
    rfl
  refine wstep (N := some 36) (v := .bool false) (a' := ?_) rfl (by rfl) (fun w' _ => by go_simp) ?_ ?_
  rotate_left
  · simp only [Act.put, List.setIfInBounds_toArray, List.set_cons_zero, List.set_cons_succ]
    rfl
  refine wstep (N := some 37) (v := .bool false) (a' := ?_) rfl (by rfl) (fun w' _ => by go_simp) ?_ ?_
  rotate_left
  · simp only [Act.put, List.setIfInBounds_toArray, List.set_cons_zero, List.set_cons_succ]
    rfl
  refine wstep (N := some 38) (v := .int .i64 ay) (a' := ?_) rfl (by rfl) (fun w' _ => by go_simp) ?_ ?_
  rotate_left
  · simp only [Act.put, List.setIfInBounds_toArray, List.set_cons_zero, List.set_cons_succ]
    rfl
  refine wstep (N := some 39) (v := .bool true) (a' := ?_) rfl (by rfl) (fun w' _ => by go_simp; (try simp only [i64_w]); first | exact P4.out | (have h_ := P4.out; omega) | exact cmp_ P4.out | exact cmpd_ P4.out | exact cmpf_ P4.out) ?_ ?_
  rotate_left
  · simp only [Act.put, List.setIfInBounds_toArray, List.set_cons_zero, List.set_cons_succ]
    rfl
  refine wstep (N := some 40) (v := .bool true) (a' := ?_) rfl (by rfl) (fun w' _ => by go_simp) ?_ ?_
  rotate_left
  · simp only [Act.put, List.setIfInBounds_toArray, List.set_cons_zero, List.set_cons_succ]
    rfl
  refine wstep (N := some 41) (v := .bool true) (a' := ?_) rfl (by rfl) (fun w' _ => by go_simp) ?_ ?_
  rotate_left
  · simp only [Act.put, List.setIfInBounds_toArray, List.set_cons_zero, List.set_cons_succ]
    rfl
  refine wskip (N := some 42) (a' := ?_) rfl (by rfl) ?_ ?_
  rotate_left
  · simp only [Act.put, List.setIfInBounds_toArray, List.set_cons_zero, List.set_cons_succ]
    rfl
  refine wskip (N := some 43) (a' := ?_) rfl (by rfl) ?_ ?_
  rotate_left
  · simp only [Act.put, List.setIfInBounds_toArray, List.set_cons_zero, List.set_cons_succ]
    rfl
  refine wstep (N := some 44) (v := .bool true) (a' := ?_) rfl (by rfl) (fun w' _ => by go_simp) ?_ ?_
  rotate_left
  · simp only [Act.put, List.setIfInBounds_toArray, List.set_cons_zero, List.set_cons_succ]
    rfl
  refine wstep (N := some 45) (v := .bool true) (a' := ?_) rfl (by rfl) (fun w' _ => by go_simp) ?_ ?_
  rotate_left
  · simp only [Act.put, List.setIfInBounds_toArray, List.set_cons_zero, List.set_cons_succ]
    rfl
  refine wskip (N := some 46) (a' := ?_) rfl (by rfl) ?_ ?_
  rotate_left
  · simp only [Act.put, List.setIfInBounds_toArray, List.set_cons_zero, List.set_cons_succ]
    rfl
  refine wskip (N := some 47) (a' := ?_) rfl (by rfl) ?_ ?_
  rotate_left
  · simp only [Act.put, List.setIfInBounds_toArray, List.set_cons_zero, List.set_cons_succ]
    rfl
  refine wstep (N := some 48) (v := .bool true) (a' := ?_) rfl (by rfl) (fun w' _ => by go_simp) ?_ ?_
  rotate_left
  · simp only [Act.put, List.setIfInBounds_toArray, List.set_cons_zero, List.set_cons_succ]
    rfl
  refine wstep (N := some 49) (v := .bool true) (a' := ?_) rfl (by rfl) (fun w' _ => by go_simp) ?_ ?_
  rotate_left
  · simp only [Act.put, List.setIfInBounds_toArray, List.set_cons_zero, List.set_cons_succ]
    rfl
  refine wskip (N := some 50) (a' := ?_) rfl (by rfl) ?_ ?_
  rotate_left
  · simp only [Act.put, List.setIfInBounds_toArray, List.set_cons_zero, List.set_cons_succ]
    rfl
  refine wskip (N := some 51) (a' := ?_) rfl (by rfl) ?_ ?_
  rotate_left
  · simp only [Act.put, List.setIfInBounds_toArray, List.set_cons_zero, List.set_cons_succ]
    rfl
  refine wskip (N := some 52) (a' := ?_) rfl (by rfl) ?_ ?_
  rotate_left
  · simp only [Act.put, List.setIfInBounds_toArray, List.set_cons_zero, List.set_cons_succ]
    rfl
  refine wskip (N := some 53) (a' := ?_) rfl (by rfl) ?_ ?_
  rotate_left
  · simp only [Act.put, List.setIfInBounds_toArray, List.set_cons_zero, List.set_cons_succ]
    rfl
  refine wstep (N := some 54) (v := .bool true) (a' := ?_) rfl (by rfl) (fun w' _ => by go_simp) ?_ ?_
  rotate_left
  · simp only [Act.put, List.setIfInBounds_toArray, List.set_cons_zero, List.set_cons_succ]
    rfl
  refine wstep (N := some 55) (v := .bool true) (a' := ?_) rfl (by rfl) (fun w' _ => by go_simp) ?_ ?_
  rotate_left
  · simp only [Act.put, List.setIfInBounds_toArray, List.set_cons_zero, List.set_cons_succ]
    rfl
  refine wskip (N := some 56) (a' := ?_) rfl (by rfl) ?_ ?_
  rotate_left
  · simp only [Act.put, List.setIfInBounds_toArray, List.set_cons_zero, List.set_cons_succ]
    rfl
  refine wskip (N := some 57) (a' := ?_) rfl (by rfl) ?_ ?_
  rotate_left
  · simp only [Act.put, List.setIfInBounds_toArray, List.set_cons_zero, List.set_cons_succ]
    rfl
  refine wstep (N := some 58) (v := .bool true) (a' := ?_) rfl (by rfl) (fun w' _ => by go_simp) ?_ ?_
  rotate_left
  · simp only [Act.put, List.setIfInBounds_toArray, List.set_cons_zero, List.set_cons_succ]
    rfl
  refine wstep (N := some 59) (v := .bool true) (a' := ?_) rfl (by rfl) (fun w' _ => by go_simp) ?_ ?_
  rotate_left
  · simp only [Act.put, List.setIfInBounds_toArray, List.set_cons_zero, List.set_cons_succ]
    rfl
  refine wskip (N := some 60) (a' := ?_) rfl (by rfl) ?_ ?_
  rotate_left
  · simp only [Act.put, List.setIfInBounds_toArray, List.set_cons_zero, List.set_cons_succ]
    rfl
  refine wskip (N := some 61) (a' := ?_) rfl (by rfl) ?_ ?_
  rotate_left
  · simp only [Act.put, List.setIfInBounds_toArray, List.set_cons_zero, List.set_cons_succ]
    rfl
  refine wstep (N := some 62) (v := .bool true) (a' := ?_) rfl (by rfl) (fun w' _ => by go_simp) ?_ ?_
  rotate_left
  · simp only [Act.put, List.setIfInBounds_toArray, List.set_cons_zero, List.set_cons_succ]
    rfl
  refine wnil ?_
  intro w_h1 h1_
  have h1 := Aside0.mk h1_
  clear h1_
  go_wp2
  go_ret
  exact ⟨rfl, h1.out.below⟩

set_option maxHeartbeats 4000000 in
set_option maxRecDepth 100000 in
theorem early6 (cs : Array Value) (ts : Array Value) (issued : Int) (e : Int) (later : Int) (ay : Int) (ny : Int) (su : Int) (cs0 cs1 cs2 cs3 cs4 cs5 cs6 cs7 cs8 cs9 cs10 cs11 cs12 cs13 cs14 cs15 cs16 cs17 ts0 ts1 ts2 : Int)  (w : World) (HS_cs : Aside0 (cs.size = 18)) (HS_ts : Aside0 (ts.size = 3))
    (H22 : Aside0 (Rets Try.prog 22 #[.agg cs] (.bool true)))
    (P0 : Aside0 (¬ (e < 0)))
    (P1 : Aside0 (¬ (e > 1073741824)))
    (P2 : Aside0 (¬ (later < 0)))
    (P3 : Aside0 (¬ (later > 1048576)))
    (P4 : Aside0 (¬ (ay < 0)))
    (P5 : Aside0 (ay > 1048576)) :
    Calls Try.prog 5 #[.agg cs, .agg ts, .int .i64 issued, .int .i64 e, .int .i64 later, .int .i64 ay, .int .i64 ny, .int .i64 su] w fun e w' => e = .returned (.bool true) ∧ Below w.heap.size w w' := by
  have HCl : Aside0 (Cls w ((w.heap.size + 1, ts, 29) :: (w.heap.size, cs, 25) :: []) ((w.alloc (.cells cs 25 (0, 0))).alloc (.cells ts 29 (0, 0)))) := ⟨Cls.put2 w _ _ _ _⟩
  go_enter Try.func5, Try.ntmps5
  go_upto_region 1 with (fail)
  refine wregion_p (C := Cls w ((w.heap.size + 1, ts, 29) :: (w.heap.size, cs, 25) :: [])) (HCl.out) ?_
  refine wstep (N := some 18) (v := .agg cs) (a' := ?_) rfl (by rfl) (fun w' h => load_row (h.blk1) rfl rfl Try.underlying25 rfl (by rw [HS_cs.out]; exact info25)) ?_ ?_
  rotate_left
  · simp only [Act.put, List.setIfInBounds_toArray, List.set_cons_zero, List.set_cons_succ]
    rfl
  refine wcall (N := some 19) (a' := ?_) (f := 22) Try.func22 (by kernel_rfl) rfl #[.agg cs] (by rfl) rfl rfl (by (try simp only [List.map_toArray, List.map_cons, List.map_nil]); first | done | rfl) (qcall_cls (v := .bool true) H22.out) ?_ ?_
  rotate_left
  · simp only [Act.put, List.setIfInBounds_toArray, List.set_cons_zero, List.set_cons_succ]
    rfl
  refine wstep (N := some 20) (v := .bool false) (a' := ?_) rfl (by rfl) (fun w' _ => by go_simp) ?_ ?_
  rotate_left
  · simp only [Act.put, List.setIfInBounds_toArray, List.set_cons_zero, List.set_cons_succ]
    rfl
  refine wstep (N := some 21) (v := .bool false) (a' := ?_) rfl (by rfl) (fun w' _ => by go_simp) ?_ ?_
  rotate_left
  · simp only [Act.put, List.setIfInBounds_toArray, List.set_cons_zero, List.set_cons_succ]
    rfl
  refine wstep (N := some 22) (v := .int .i64 e) (a' := ?_) rfl (by rfl) (fun w' _ => by go_simp) ?_ ?_
  rotate_left
  · simp only [Act.put, List.setIfInBounds_toArray, List.set_cons_zero, List.set_cons_succ]
    rfl
  refine wstep (N := some 23) (v := .bool false) (a' := ?_) rfl (by rfl) (fun w' _ => by go_simp; (try simp only [i64_w]); first | exact P0.out | (have h_ := P0.out; omega) | exact cmp_ P0.out | exact cmpd_ P0.out | exact cmpf_ P0.out) ?_ ?_
  rotate_left
  · simp only [Act.put, List.setIfInBounds_toArray, List.set_cons_zero, List.set_cons_succ]
    rfl
  refine wstep (N := some 24) (v := .bool false) (a' := ?_) rfl (by rfl) (fun w' _ => by go_simp) ?_ ?_
  rotate_left
  · simp only [Act.put, List.setIfInBounds_toArray, List.set_cons_zero, List.set_cons_succ]
    rfl
  refine wstep (N := some 25) (v := .bool false) (a' := ?_) rfl (by rfl) (fun w' _ => by go_simp) ?_ ?_
  rotate_left
  · simp only [Act.put, List.setIfInBounds_toArray, List.set_cons_zero, List.set_cons_succ]
    rfl
  refine wstep (N := some 26) (v := .int .i64 e) (a' := ?_) rfl (by rfl) (fun w' _ => by go_simp) ?_ ?_
  rotate_left
  · simp only [Act.put, List.setIfInBounds_toArray, List.set_cons_zero, List.set_cons_succ]
    rfl
  refine wstep (N := some 27) (v := .bool false) (a' := ?_) rfl (by rfl) (fun w' _ => by go_simp; (try simp only [i64_w]); first | exact P1.out | (have h_ := P1.out; omega) | exact cmp_ P1.out | exact cmpd_ P1.out | exact cmpf_ P1.out) ?_ ?_
  rotate_left
  · simp only [Act.put, List.setIfInBounds_toArray, List.set_cons_zero, List.set_cons_succ]
    rfl
  refine wstep (N := some 28) (v := .bool false) (a' := ?_) rfl (by rfl) (fun w' _ => by go_simp) ?_ ?_
  rotate_left
  · simp only [Act.put, List.setIfInBounds_toArray, List.set_cons_zero, List.set_cons_succ]
    rfl
  refine wstep (N := some 29) (v := .bool false) (a' := ?_) rfl (by rfl) (fun w' _ => by go_simp) ?_ ?_
  rotate_left
  · simp only [Act.put, List.setIfInBounds_toArray, List.set_cons_zero, List.set_cons_succ]
    rfl
  refine wstep (N := some 30) (v := .int .i64 later) (a' := ?_) rfl (by rfl) (fun w' _ => by go_simp) ?_ ?_
  rotate_left
  · simp only [Act.put, List.setIfInBounds_toArray, List.set_cons_zero, List.set_cons_succ]
    rfl
  refine wstep (N := some 31) (v := .bool false) (a' := ?_) rfl (by rfl) (fun w' _ => by go_simp; (try simp only [i64_w]); first | exact P2.out | (have h_ := P2.out; omega) | exact cmp_ P2.out | exact cmpd_ P2.out | exact cmpf_ P2.out) ?_ ?_
  rotate_left
  · simp only [Act.put, List.setIfInBounds_toArray, List.set_cons_zero, List.set_cons_succ]
    rfl
  refine wstep (N := some 32) (v := .bool false) (a' := ?_) rfl (by rfl) (fun w' _ => by go_simp) ?_ ?_
  rotate_left
  · simp only [Act.put, List.setIfInBounds_toArray, List.set_cons_zero, List.set_cons_succ]
    rfl
  refine wstep (N := some 33) (v := .bool false) (a' := ?_) rfl (by rfl) (fun w' _ => by go_simp) ?_ ?_
  rotate_left
  · simp only [Act.put, List.setIfInBounds_toArray, List.set_cons_zero, List.set_cons_succ]
    rfl
  refine wstep (N := some 34) (v := .int .i64 later) (a' := ?_) rfl (by rfl) (fun w' _ => by go_simp) ?_ ?_
  rotate_left
  · simp only [Act.put, List.setIfInBounds_toArray, List.set_cons_zero, List.set_cons_succ]
    rfl
  refine wstep (N := some 35) (v := .bool false) (a' := ?_) rfl (by rfl) (fun w' _ => by go_simp; (try simp only [i64_w]); first | exact P3.out | (have h_ := P3.out; omega) | exact cmp_ P3.out | exact cmpd_ P3.out | exact cmpf_ P3.out) ?_ ?_
  rotate_left
  · simp only [Act.put, List.setIfInBounds_toArray, List.set_cons_zero, List.set_cons_succ]
    rfl
  refine wstep (N := some 36) (v := .bool false) (a' := ?_) rfl (by rfl) (fun w' _ => by go_simp) ?_ ?_
  rotate_left
  · simp only [Act.put, List.setIfInBounds_toArray, List.set_cons_zero, List.set_cons_succ]
    rfl
  refine wstep (N := some 37) (v := .bool false) (a' := ?_) rfl (by rfl) (fun w' _ => by go_simp) ?_ ?_
  rotate_left
  · simp only [Act.put, List.setIfInBounds_toArray, List.set_cons_zero, List.set_cons_succ]
    rfl
  refine wstep (N := some 38) (v := .int .i64 ay) (a' := ?_) rfl (by rfl) (fun w' _ => by go_simp) ?_ ?_
  rotate_left
  · simp only [Act.put, List.setIfInBounds_toArray, List.set_cons_zero, List.set_cons_succ]
    rfl
  refine wstep (N := some 39) (v := .bool false) (a' := ?_) rfl (by rfl) (fun w' _ => by go_simp; (try simp only [i64_w]); first | exact P4.out | (have h_ := P4.out; omega) | exact cmp_ P4.out | exact cmpd_ P4.out | exact cmpf_ P4.out) ?_ ?_
  rotate_left
  · simp only [Act.put, List.setIfInBounds_toArray, List.set_cons_zero, List.set_cons_succ]
    rfl
  refine wstep (N := some 40) (v := .bool false) (a' := ?_) rfl (by rfl) (fun w' _ => by go_simp) ?_ ?_
  rotate_left
  · simp only [Act.put, List.setIfInBounds_toArray, List.set_cons_zero, List.set_cons_succ]
    rfl
  refine wstep (N := some 41) (v := .bool false) (a' := ?_) rfl (by rfl) (fun w' _ => by go_simp) ?_ ?_
  rotate_left
  · simp only [Act.put, List.setIfInBounds_toArray, List.set_cons_zero, List.set_cons_succ]
    rfl
  refine wstep (N := some 42) (v := .int .i64 ay) (a' := ?_) rfl (by rfl) (fun w' _ => by go_simp) ?_ ?_
  rotate_left
  · simp only [Act.put, List.setIfInBounds_toArray, List.set_cons_zero, List.set_cons_succ]
    rfl
  refine wstep (N := some 43) (v := .bool true) (a' := ?_) rfl (by rfl) (fun w' _ => by go_simp; (try simp only [i64_w]); first | exact P5.out | (have h_ := P5.out; omega) | exact cmp_ P5.out | exact cmpd_ P5.out | exact cmpf_ P5.out) ?_ ?_
  rotate_left
  · simp only [Act.put, List.setIfInBounds_toArray, List.set_cons_zero, List.set_cons_succ]
    rfl
  refine wstep (N := some 44) (v := .bool true) (a' := ?_) rfl (by rfl) (fun w' _ => by go_simp) ?_ ?_
  rotate_left
  · simp only [Act.put, List.setIfInBounds_toArray, List.set_cons_zero, List.set_cons_succ]
    rfl
  refine wstep (N := some 45) (v := .bool true) (a' := ?_) rfl (by rfl) (fun w' _ => by go_simp) ?_ ?_
  rotate_left
  · simp only [Act.put, List.setIfInBounds_toArray, List.set_cons_zero, List.set_cons_succ]
    rfl
  refine wskip (N := some 46) (a' := ?_) rfl (by rfl) ?_ ?_
  rotate_left
  · simp only [Act.put, List.setIfInBounds_toArray, List.set_cons_zero, List.set_cons_succ]
    rfl
  refine wskip (N := some 47) (a' := ?_) rfl (by rfl) ?_ ?_
  rotate_left
  · simp only [Act.put, List.setIfInBounds_toArray, List.set_cons_zero, List.set_cons_succ]
    rfl
  refine wstep (N := some 48) (v := .bool true) (a' := ?_) rfl (by rfl) (fun w' _ => by go_simp) ?_ ?_
  rotate_left
  · simp only [Act.put, List.setIfInBounds_toArray, List.set_cons_zero, List.set_cons_succ]
    rfl
  refine wstep (N := some 49) (v := .bool true) (a' := ?_) rfl (by rfl) (fun w' _ => by go_simp) ?_ ?_
  rotate_left
  · simp only [Act.put, List.setIfInBounds_toArray, List.set_cons_zero, List.set_cons_succ]
    rfl
  refine wskip (N := some 50) (a' := ?_) rfl (by rfl) ?_ ?_
  rotate_left
  · simp only [Act.put, List.setIfInBounds_toArray, List.set_cons_zero, List.set_cons_succ]
    rfl
  refine wskip (N := some 51) (a' := ?_) rfl (by rfl) ?_ ?_
  rotate_left
  · simp only [Act.put, List.setIfInBounds_toArray, List.set_cons_zero, List.set_cons_succ]
    rfl
  refine wskip (N := some 52) (a' := ?_) rfl (by rfl) ?_ ?_
  rotate_left
  · simp only [Act.put, List.setIfInBounds_toArray, List.set_cons_zero, List.set_cons_succ]
    rfl
  refine wskip (N := some 53) (a' := ?_) rfl (by rfl) ?_ ?_
  rotate_left
  · simp only [Act.put, List.setIfInBounds_toArray, List.set_cons_zero, List.set_cons_succ]
    rfl
  refine wstep (N := some 54) (v := .bool true) (a' := ?_) rfl (by rfl) (fun w' _ => by go_simp) ?_ ?_
  rotate_left
  · simp only [Act.put, List.setIfInBounds_toArray, List.set_cons_zero, List.set_cons_succ]
    rfl
  refine wstep (N := some 55) (v := .bool true) (a' := ?_) rfl (by rfl) (fun w' _ => by go_simp) ?_ ?_
  rotate_left
  · simp only [Act.put, List.setIfInBounds_toArray, List.set_cons_zero, List.set_cons_succ]
    rfl
  refine wskip (N := some 56) (a' := ?_) rfl (by rfl) ?_ ?_
  rotate_left
  · simp only [Act.put, List.setIfInBounds_toArray, List.set_cons_zero, List.set_cons_succ]
    rfl
  refine wskip (N := some 57) (a' := ?_) rfl (by rfl) ?_ ?_
  rotate_left
  · simp only [Act.put, List.setIfInBounds_toArray, List.set_cons_zero, List.set_cons_succ]
    rfl
  refine wstep (N := some 58) (v := .bool true) (a' := ?_) rfl (by rfl) (fun w' _ => by go_simp) ?_ ?_
  rotate_left
  · simp only [Act.put, List.setIfInBounds_toArray, List.set_cons_zero, List.set_cons_succ]
    rfl
  refine wstep (N := some 59) (v := .bool true) (a' := ?_) rfl (by rfl) (fun w' _ => by go_simp) ?_ ?_
  rotate_left
  · simp only [Act.put, List.setIfInBounds_toArray, List.set_cons_zero, List.set_cons_succ]
    rfl
  refine wskip (N := some 60) (a' := ?_) rfl (by rfl) ?_ ?_
  rotate_left
  · simp only [Act.put, List.setIfInBounds_toArray, List.set_cons_zero, List.set_cons_succ]
    rfl
  refine wskip (N := some 61) (a' := ?_) rfl (by rfl) ?_ ?_
  rotate_left
  · simp only [Act.put, List.setIfInBounds_toArray, List.set_cons_zero, List.set_cons_succ]
    rfl
  refine wstep (N := some 62) (v := .bool true) (a' := ?_) rfl (by rfl) (fun w' _ => by go_simp) ?_ ?_
  rotate_left
  · simp only [Act.put, List.setIfInBounds_toArray, List.set_cons_zero, List.set_cons_succ]
    rfl
  refine wnil ?_
  intro w_h1 h1_
  have h1 := Aside0.mk h1_
  clear h1_
  go_wp2
  go_ret
  exact ⟨rfl, h1.out.below⟩

set_option maxHeartbeats 4000000 in
set_option maxRecDepth 100000 in
theorem early7 (cs : Array Value) (ts : Array Value) (issued : Int) (e : Int) (later : Int) (ay : Int) (ny : Int) (su : Int) (cs0 cs1 cs2 cs3 cs4 cs5 cs6 cs7 cs8 cs9 cs10 cs11 cs12 cs13 cs14 cs15 cs16 cs17 ts0 ts1 ts2 : Int)  (w : World) (HS_cs : Aside0 (cs.size = 18)) (HS_ts : Aside0 (ts.size = 3))
    (H22 : Aside0 (Rets Try.prog 22 #[.agg cs] (.bool true)))
    (P0 : Aside0 (¬ (e < 0)))
    (P1 : Aside0 (¬ (e > 1073741824)))
    (P2 : Aside0 (¬ (later < 0)))
    (P3 : Aside0 (¬ (later > 1048576)))
    (P4 : Aside0 (¬ (ay < 0)))
    (P5 : Aside0 (¬ (ay > 1048576)))
    (P6 : Aside0 (ny < 0)) :
    Calls Try.prog 5 #[.agg cs, .agg ts, .int .i64 issued, .int .i64 e, .int .i64 later, .int .i64 ay, .int .i64 ny, .int .i64 su] w fun e w' => e = .returned (.bool true) ∧ Below w.heap.size w w' := by
  have HCl : Aside0 (Cls w ((w.heap.size + 1, ts, 29) :: (w.heap.size, cs, 25) :: []) ((w.alloc (.cells cs 25 (0, 0))).alloc (.cells ts 29 (0, 0)))) := ⟨Cls.put2 w _ _ _ _⟩
  go_enter Try.func5, Try.ntmps5
  go_upto_region 1 with (fail)
  refine wregion_p (C := Cls w ((w.heap.size + 1, ts, 29) :: (w.heap.size, cs, 25) :: [])) (HCl.out) ?_
  refine wstep (N := some 18) (v := .agg cs) (a' := ?_) rfl (by rfl) (fun w' h => load_row (h.blk1) rfl rfl Try.underlying25 rfl (by rw [HS_cs.out]; exact info25)) ?_ ?_
  rotate_left
  · simp only [Act.put, List.setIfInBounds_toArray, List.set_cons_zero, List.set_cons_succ]
    rfl
  refine wcall (N := some 19) (a' := ?_) (f := 22) Try.func22 (by kernel_rfl) rfl #[.agg cs] (by rfl) rfl rfl (by (try simp only [List.map_toArray, List.map_cons, List.map_nil]); first | done | rfl) (qcall_cls (v := .bool true) H22.out) ?_ ?_
  rotate_left
  · simp only [Act.put, List.setIfInBounds_toArray, List.set_cons_zero, List.set_cons_succ]
    rfl
  refine wstep (N := some 20) (v := .bool false) (a' := ?_) rfl (by rfl) (fun w' _ => by go_simp) ?_ ?_
  rotate_left
  · simp only [Act.put, List.setIfInBounds_toArray, List.set_cons_zero, List.set_cons_succ]
    rfl
  refine wstep (N := some 21) (v := .bool false) (a' := ?_) rfl (by rfl) (fun w' _ => by go_simp) ?_ ?_
  rotate_left
  · simp only [Act.put, List.setIfInBounds_toArray, List.set_cons_zero, List.set_cons_succ]
    rfl
  refine wstep (N := some 22) (v := .int .i64 e) (a' := ?_) rfl (by rfl) (fun w' _ => by go_simp) ?_ ?_
  rotate_left
  · simp only [Act.put, List.setIfInBounds_toArray, List.set_cons_zero, List.set_cons_succ]
    rfl
  refine wstep (N := some 23) (v := .bool false) (a' := ?_) rfl (by rfl) (fun w' _ => by go_simp; (try simp only [i64_w]); first | exact P0.out | (have h_ := P0.out; omega) | exact cmp_ P0.out | exact cmpd_ P0.out | exact cmpf_ P0.out) ?_ ?_
  rotate_left
  · simp only [Act.put, List.setIfInBounds_toArray, List.set_cons_zero, List.set_cons_succ]
    rfl
  refine wstep (N := some 24) (v := .bool false) (a' := ?_) rfl (by rfl) (fun w' _ => by go_simp) ?_ ?_
  rotate_left
  · simp only [Act.put, List.setIfInBounds_toArray, List.set_cons_zero, List.set_cons_succ]
    rfl
  refine wstep (N := some 25) (v := .bool false) (a' := ?_) rfl (by rfl) (fun w' _ => by go_simp) ?_ ?_
  rotate_left
  · simp only [Act.put, List.setIfInBounds_toArray, List.set_cons_zero, List.set_cons_succ]
    rfl
  refine wstep (N := some 26) (v := .int .i64 e) (a' := ?_) rfl (by rfl) (fun w' _ => by go_simp) ?_ ?_
  rotate_left
  · simp only [Act.put, List.setIfInBounds_toArray, List.set_cons_zero, List.set_cons_succ]
    rfl
  refine wstep (N := some 27) (v := .bool false) (a' := ?_) rfl (by rfl) (fun w' _ => by go_simp; (try simp only [i64_w]); first | exact P1.out | (have h_ := P1.out; omega) | exact cmp_ P1.out | exact cmpd_ P1.out | exact cmpf_ P1.out) ?_ ?_
  rotate_left
  · simp only [Act.put, List.setIfInBounds_toArray, List.set_cons_zero, List.set_cons_succ]
    rfl
  refine wstep (N := some 28) (v := .bool false) (a' := ?_) rfl (by rfl) (fun w' _ => by go_simp) ?_ ?_
  rotate_left
  · simp only [Act.put, List.setIfInBounds_toArray, List.set_cons_zero, List.set_cons_succ]
    rfl
  refine wstep (N := some 29) (v := .bool false) (a' := ?_) rfl (by rfl) (fun w' _ => by go_simp) ?_ ?_
  rotate_left
  · simp only [Act.put, List.setIfInBounds_toArray, List.set_cons_zero, List.set_cons_succ]
    rfl
  refine wstep (N := some 30) (v := .int .i64 later) (a' := ?_) rfl (by rfl) (fun w' _ => by go_simp) ?_ ?_
  rotate_left
  · simp only [Act.put, List.setIfInBounds_toArray, List.set_cons_zero, List.set_cons_succ]
    rfl
  refine wstep (N := some 31) (v := .bool false) (a' := ?_) rfl (by rfl) (fun w' _ => by go_simp; (try simp only [i64_w]); first | exact P2.out | (have h_ := P2.out; omega) | exact cmp_ P2.out | exact cmpd_ P2.out | exact cmpf_ P2.out) ?_ ?_
  rotate_left
  · simp only [Act.put, List.setIfInBounds_toArray, List.set_cons_zero, List.set_cons_succ]
    rfl
  refine wstep (N := some 32) (v := .bool false) (a' := ?_) rfl (by rfl) (fun w' _ => by go_simp) ?_ ?_
  rotate_left
  · simp only [Act.put, List.setIfInBounds_toArray, List.set_cons_zero, List.set_cons_succ]
    rfl
  refine wstep (N := some 33) (v := .bool false) (a' := ?_) rfl (by rfl) (fun w' _ => by go_simp) ?_ ?_
  rotate_left
  · simp only [Act.put, List.setIfInBounds_toArray, List.set_cons_zero, List.set_cons_succ]
    rfl
  refine wstep (N := some 34) (v := .int .i64 later) (a' := ?_) rfl (by rfl) (fun w' _ => by go_simp) ?_ ?_
  rotate_left
  · simp only [Act.put, List.setIfInBounds_toArray, List.set_cons_zero, List.set_cons_succ]
    rfl
  refine wstep (N := some 35) (v := .bool false) (a' := ?_) rfl (by rfl) (fun w' _ => by go_simp; (try simp only [i64_w]); first | exact P3.out | (have h_ := P3.out; omega) | exact cmp_ P3.out | exact cmpd_ P3.out | exact cmpf_ P3.out) ?_ ?_
  rotate_left
  · simp only [Act.put, List.setIfInBounds_toArray, List.set_cons_zero, List.set_cons_succ]
    rfl
  refine wstep (N := some 36) (v := .bool false) (a' := ?_) rfl (by rfl) (fun w' _ => by go_simp) ?_ ?_
  rotate_left
  · simp only [Act.put, List.setIfInBounds_toArray, List.set_cons_zero, List.set_cons_succ]
    rfl
  refine wstep (N := some 37) (v := .bool false) (a' := ?_) rfl (by rfl) (fun w' _ => by go_simp) ?_ ?_
  rotate_left
  · simp only [Act.put, List.setIfInBounds_toArray, List.set_cons_zero, List.set_cons_succ]
    rfl
  refine wstep (N := some 38) (v := .int .i64 ay) (a' := ?_) rfl (by rfl) (fun w' _ => by go_simp) ?_ ?_
  rotate_left
  · simp only [Act.put, List.setIfInBounds_toArray, List.set_cons_zero, List.set_cons_succ]
    rfl
  refine wstep (N := some 39) (v := .bool false) (a' := ?_) rfl (by rfl) (fun w' _ => by go_simp; (try simp only [i64_w]); first | exact P4.out | (have h_ := P4.out; omega) | exact cmp_ P4.out | exact cmpd_ P4.out | exact cmpf_ P4.out) ?_ ?_
  rotate_left
  · simp only [Act.put, List.setIfInBounds_toArray, List.set_cons_zero, List.set_cons_succ]
    rfl
  refine wstep (N := some 40) (v := .bool false) (a' := ?_) rfl (by rfl) (fun w' _ => by go_simp) ?_ ?_
  rotate_left
  · simp only [Act.put, List.setIfInBounds_toArray, List.set_cons_zero, List.set_cons_succ]
    rfl
  refine wstep (N := some 41) (v := .bool false) (a' := ?_) rfl (by rfl) (fun w' _ => by go_simp) ?_ ?_
  rotate_left
  · simp only [Act.put, List.setIfInBounds_toArray, List.set_cons_zero, List.set_cons_succ]
    rfl
  refine wstep (N := some 42) (v := .int .i64 ay) (a' := ?_) rfl (by rfl) (fun w' _ => by go_simp) ?_ ?_
  rotate_left
  · simp only [Act.put, List.setIfInBounds_toArray, List.set_cons_zero, List.set_cons_succ]
    rfl
  refine wstep (N := some 43) (v := .bool false) (a' := ?_) rfl (by rfl) (fun w' _ => by go_simp; (try simp only [i64_w]); first | exact P5.out | (have h_ := P5.out; omega) | exact cmp_ P5.out | exact cmpd_ P5.out | exact cmpf_ P5.out) ?_ ?_
  rotate_left
  · simp only [Act.put, List.setIfInBounds_toArray, List.set_cons_zero, List.set_cons_succ]
    rfl
  refine wstep (N := some 44) (v := .bool false) (a' := ?_) rfl (by rfl) (fun w' _ => by go_simp) ?_ ?_
  rotate_left
  · simp only [Act.put, List.setIfInBounds_toArray, List.set_cons_zero, List.set_cons_succ]
    rfl
  refine wstep (N := some 45) (v := .bool false) (a' := ?_) rfl (by rfl) (fun w' _ => by go_simp) ?_ ?_
  rotate_left
  · simp only [Act.put, List.setIfInBounds_toArray, List.set_cons_zero, List.set_cons_succ]
    rfl
  refine wstep (N := some 46) (v := .int .i64 ny) (a' := ?_) rfl (by rfl) (fun w' _ => by go_simp) ?_ ?_
  rotate_left
  · simp only [Act.put, List.setIfInBounds_toArray, List.set_cons_zero, List.set_cons_succ]
    rfl
  refine wstep (N := some 47) (v := .bool true) (a' := ?_) rfl (by rfl) (fun w' _ => by go_simp; (try simp only [i64_w]); first | exact P6.out | (have h_ := P6.out; omega) | exact cmp_ P6.out | exact cmpd_ P6.out | exact cmpf_ P6.out) ?_ ?_
  rotate_left
  · simp only [Act.put, List.setIfInBounds_toArray, List.set_cons_zero, List.set_cons_succ]
    rfl
  refine wstep (N := some 48) (v := .bool true) (a' := ?_) rfl (by rfl) (fun w' _ => by go_simp) ?_ ?_
  rotate_left
  · simp only [Act.put, List.setIfInBounds_toArray, List.set_cons_zero, List.set_cons_succ]
    rfl
  refine wstep (N := some 49) (v := .bool true) (a' := ?_) rfl (by rfl) (fun w' _ => by go_simp) ?_ ?_
  rotate_left
  · simp only [Act.put, List.setIfInBounds_toArray, List.set_cons_zero, List.set_cons_succ]
    rfl
  refine wskip (N := some 50) (a' := ?_) rfl (by rfl) ?_ ?_
  rotate_left
  · simp only [Act.put, List.setIfInBounds_toArray, List.set_cons_zero, List.set_cons_succ]
    rfl
  refine wskip (N := some 51) (a' := ?_) rfl (by rfl) ?_ ?_
  rotate_left
  · simp only [Act.put, List.setIfInBounds_toArray, List.set_cons_zero, List.set_cons_succ]
    rfl
  refine wskip (N := some 52) (a' := ?_) rfl (by rfl) ?_ ?_
  rotate_left
  · simp only [Act.put, List.setIfInBounds_toArray, List.set_cons_zero, List.set_cons_succ]
    rfl
  refine wskip (N := some 53) (a' := ?_) rfl (by rfl) ?_ ?_
  rotate_left
  · simp only [Act.put, List.setIfInBounds_toArray, List.set_cons_zero, List.set_cons_succ]
    rfl
  refine wstep (N := some 54) (v := .bool true) (a' := ?_) rfl (by rfl) (fun w' _ => by go_simp) ?_ ?_
  rotate_left
  · simp only [Act.put, List.setIfInBounds_toArray, List.set_cons_zero, List.set_cons_succ]
    rfl
  refine wstep (N := some 55) (v := .bool true) (a' := ?_) rfl (by rfl) (fun w' _ => by go_simp) ?_ ?_
  rotate_left
  · simp only [Act.put, List.setIfInBounds_toArray, List.set_cons_zero, List.set_cons_succ]
    rfl
  refine wskip (N := some 56) (a' := ?_) rfl (by rfl) ?_ ?_
  rotate_left
  · simp only [Act.put, List.setIfInBounds_toArray, List.set_cons_zero, List.set_cons_succ]
    rfl
  refine wskip (N := some 57) (a' := ?_) rfl (by rfl) ?_ ?_
  rotate_left
  · simp only [Act.put, List.setIfInBounds_toArray, List.set_cons_zero, List.set_cons_succ]
    rfl
  refine wstep (N := some 58) (v := .bool true) (a' := ?_) rfl (by rfl) (fun w' _ => by go_simp) ?_ ?_
  rotate_left
  · simp only [Act.put, List.setIfInBounds_toArray, List.set_cons_zero, List.set_cons_succ]
    rfl
  refine wstep (N := some 59) (v := .bool true) (a' := ?_) rfl (by rfl) (fun w' _ => by go_simp) ?_ ?_
  rotate_left
  · simp only [Act.put, List.setIfInBounds_toArray, List.set_cons_zero, List.set_cons_succ]
    rfl
  refine wskip (N := some 60) (a' := ?_) rfl (by rfl) ?_ ?_
  rotate_left
  · simp only [Act.put, List.setIfInBounds_toArray, List.set_cons_zero, List.set_cons_succ]
    rfl
  refine wskip (N := some 61) (a' := ?_) rfl (by rfl) ?_ ?_
  rotate_left
  · simp only [Act.put, List.setIfInBounds_toArray, List.set_cons_zero, List.set_cons_succ]
    rfl
  refine wstep (N := some 62) (v := .bool true) (a' := ?_) rfl (by rfl) (fun w' _ => by go_simp) ?_ ?_
  rotate_left
  · simp only [Act.put, List.setIfInBounds_toArray, List.set_cons_zero, List.set_cons_succ]
    rfl
  refine wnil ?_
  intro w_h1 h1_
  have h1 := Aside0.mk h1_
  clear h1_
  go_wp2
  go_ret
  exact ⟨rfl, h1.out.below⟩

set_option maxHeartbeats 4000000 in
set_option maxRecDepth 100000 in
theorem early8 (cs : Array Value) (ts : Array Value) (issued : Int) (e : Int) (later : Int) (ay : Int) (ny : Int) (su : Int) (cs0 cs1 cs2 cs3 cs4 cs5 cs6 cs7 cs8 cs9 cs10 cs11 cs12 cs13 cs14 cs15 cs16 cs17 ts0 ts1 ts2 : Int)  (w : World) (HS_cs : Aside0 (cs.size = 18)) (HS_ts : Aside0 (ts.size = 3)) (HC_ts_1 : Aside0 (ts[1]? = some (.int .i64 ts1)))
    (H22 : Aside0 (Rets Try.prog 22 #[.agg cs] (.bool true)))
    (P0 : Aside0 (¬ (e < 0)))
    (P1 : Aside0 (¬ (e > 1073741824)))
    (P2 : Aside0 (¬ (later < 0)))
    (P3 : Aside0 (¬ (later > 1048576)))
    (P4 : Aside0 (¬ (ay < 0)))
    (P5 : Aside0 (¬ (ay > 1048576)))
    (P6 : Aside0 (¬ (ny < 0)))
    (P7 : Aside0 (ny > ts1)) :
    Calls Try.prog 5 #[.agg cs, .agg ts, .int .i64 issued, .int .i64 e, .int .i64 later, .int .i64 ay, .int .i64 ny, .int .i64 su] w fun e w' => e = .returned (.bool true) ∧ Below w.heap.size w w' := by
  have HCl : Aside0 (Cls w ((w.heap.size + 1, ts, 29) :: (w.heap.size, cs, 25) :: []) ((w.alloc (.cells cs 25 (0, 0))).alloc (.cells ts 29 (0, 0)))) := ⟨Cls.put2 w _ _ _ _⟩
  go_enter Try.func5, Try.ntmps5
  go_upto_region 1 with (fail)
  refine wregion_p (C := Cls w ((w.heap.size + 1, ts, 29) :: (w.heap.size, cs, 25) :: [])) (HCl.out) ?_
  refine wstep (N := some 18) (v := .agg cs) (a' := ?_) rfl (by rfl) (fun w' h => load_row (h.blk1) rfl rfl Try.underlying25 rfl (by rw [HS_cs.out]; exact info25)) ?_ ?_
  rotate_left
  · simp only [Act.put, List.setIfInBounds_toArray, List.set_cons_zero, List.set_cons_succ]
    rfl
  refine wcall (N := some 19) (a' := ?_) (f := 22) Try.func22 (by kernel_rfl) rfl #[.agg cs] (by rfl) rfl rfl (by (try simp only [List.map_toArray, List.map_cons, List.map_nil]); first | done | rfl) (qcall_cls (v := .bool true) H22.out) ?_ ?_
  rotate_left
  · simp only [Act.put, List.setIfInBounds_toArray, List.set_cons_zero, List.set_cons_succ]
    rfl
  refine wstep (N := some 20) (v := .bool false) (a' := ?_) rfl (by rfl) (fun w' _ => by go_simp) ?_ ?_
  rotate_left
  · simp only [Act.put, List.setIfInBounds_toArray, List.set_cons_zero, List.set_cons_succ]
    rfl
  refine wstep (N := some 21) (v := .bool false) (a' := ?_) rfl (by rfl) (fun w' _ => by go_simp) ?_ ?_
  rotate_left
  · simp only [Act.put, List.setIfInBounds_toArray, List.set_cons_zero, List.set_cons_succ]
    rfl
  refine wstep (N := some 22) (v := .int .i64 e) (a' := ?_) rfl (by rfl) (fun w' _ => by go_simp) ?_ ?_
  rotate_left
  · simp only [Act.put, List.setIfInBounds_toArray, List.set_cons_zero, List.set_cons_succ]
    rfl
  refine wstep (N := some 23) (v := .bool false) (a' := ?_) rfl (by rfl) (fun w' _ => by go_simp; (try simp only [i64_w]); first | exact P0.out | (have h_ := P0.out; omega) | exact cmp_ P0.out | exact cmpd_ P0.out | exact cmpf_ P0.out) ?_ ?_
  rotate_left
  · simp only [Act.put, List.setIfInBounds_toArray, List.set_cons_zero, List.set_cons_succ]
    rfl
  refine wstep (N := some 24) (v := .bool false) (a' := ?_) rfl (by rfl) (fun w' _ => by go_simp) ?_ ?_
  rotate_left
  · simp only [Act.put, List.setIfInBounds_toArray, List.set_cons_zero, List.set_cons_succ]
    rfl
  refine wstep (N := some 25) (v := .bool false) (a' := ?_) rfl (by rfl) (fun w' _ => by go_simp) ?_ ?_
  rotate_left
  · simp only [Act.put, List.setIfInBounds_toArray, List.set_cons_zero, List.set_cons_succ]
    rfl
  refine wstep (N := some 26) (v := .int .i64 e) (a' := ?_) rfl (by rfl) (fun w' _ => by go_simp) ?_ ?_
  rotate_left
  · simp only [Act.put, List.setIfInBounds_toArray, List.set_cons_zero, List.set_cons_succ]
    rfl
  refine wstep (N := some 27) (v := .bool false) (a' := ?_) rfl (by rfl) (fun w' _ => by go_simp; (try simp only [i64_w]); first | exact P1.out | (have h_ := P1.out; omega) | exact cmp_ P1.out | exact cmpd_ P1.out | exact cmpf_ P1.out) ?_ ?_
  rotate_left
  · simp only [Act.put, List.setIfInBounds_toArray, List.set_cons_zero, List.set_cons_succ]
    rfl
  refine wstep (N := some 28) (v := .bool false) (a' := ?_) rfl (by rfl) (fun w' _ => by go_simp) ?_ ?_
  rotate_left
  · simp only [Act.put, List.setIfInBounds_toArray, List.set_cons_zero, List.set_cons_succ]
    rfl
  refine wstep (N := some 29) (v := .bool false) (a' := ?_) rfl (by rfl) (fun w' _ => by go_simp) ?_ ?_
  rotate_left
  · simp only [Act.put, List.setIfInBounds_toArray, List.set_cons_zero, List.set_cons_succ]
    rfl
  refine wstep (N := some 30) (v := .int .i64 later) (a' := ?_) rfl (by rfl) (fun w' _ => by go_simp) ?_ ?_
  rotate_left
  · simp only [Act.put, List.setIfInBounds_toArray, List.set_cons_zero, List.set_cons_succ]
    rfl
  refine wstep (N := some 31) (v := .bool false) (a' := ?_) rfl (by rfl) (fun w' _ => by go_simp; (try simp only [i64_w]); first | exact P2.out | (have h_ := P2.out; omega) | exact cmp_ P2.out | exact cmpd_ P2.out | exact cmpf_ P2.out) ?_ ?_
  rotate_left
  · simp only [Act.put, List.setIfInBounds_toArray, List.set_cons_zero, List.set_cons_succ]
    rfl
  refine wstep (N := some 32) (v := .bool false) (a' := ?_) rfl (by rfl) (fun w' _ => by go_simp) ?_ ?_
  rotate_left
  · simp only [Act.put, List.setIfInBounds_toArray, List.set_cons_zero, List.set_cons_succ]
    rfl
  refine wstep (N := some 33) (v := .bool false) (a' := ?_) rfl (by rfl) (fun w' _ => by go_simp) ?_ ?_
  rotate_left
  · simp only [Act.put, List.setIfInBounds_toArray, List.set_cons_zero, List.set_cons_succ]
    rfl
  refine wstep (N := some 34) (v := .int .i64 later) (a' := ?_) rfl (by rfl) (fun w' _ => by go_simp) ?_ ?_
  rotate_left
  · simp only [Act.put, List.setIfInBounds_toArray, List.set_cons_zero, List.set_cons_succ]
    rfl
  refine wstep (N := some 35) (v := .bool false) (a' := ?_) rfl (by rfl) (fun w' _ => by go_simp; (try simp only [i64_w]); first | exact P3.out | (have h_ := P3.out; omega) | exact cmp_ P3.out | exact cmpd_ P3.out | exact cmpf_ P3.out) ?_ ?_
  rotate_left
  · simp only [Act.put, List.setIfInBounds_toArray, List.set_cons_zero, List.set_cons_succ]
    rfl
  refine wstep (N := some 36) (v := .bool false) (a' := ?_) rfl (by rfl) (fun w' _ => by go_simp) ?_ ?_
  rotate_left
  · simp only [Act.put, List.setIfInBounds_toArray, List.set_cons_zero, List.set_cons_succ]
    rfl
  refine wstep (N := some 37) (v := .bool false) (a' := ?_) rfl (by rfl) (fun w' _ => by go_simp) ?_ ?_
  rotate_left
  · simp only [Act.put, List.setIfInBounds_toArray, List.set_cons_zero, List.set_cons_succ]
    rfl
  refine wstep (N := some 38) (v := .int .i64 ay) (a' := ?_) rfl (by rfl) (fun w' _ => by go_simp) ?_ ?_
  rotate_left
  · simp only [Act.put, List.setIfInBounds_toArray, List.set_cons_zero, List.set_cons_succ]
    rfl
  refine wstep (N := some 39) (v := .bool false) (a' := ?_) rfl (by rfl) (fun w' _ => by go_simp; (try simp only [i64_w]); first | exact P4.out | (have h_ := P4.out; omega) | exact cmp_ P4.out | exact cmpd_ P4.out | exact cmpf_ P4.out) ?_ ?_
  rotate_left
  · simp only [Act.put, List.setIfInBounds_toArray, List.set_cons_zero, List.set_cons_succ]
    rfl
  refine wstep (N := some 40) (v := .bool false) (a' := ?_) rfl (by rfl) (fun w' _ => by go_simp) ?_ ?_
  rotate_left
  · simp only [Act.put, List.setIfInBounds_toArray, List.set_cons_zero, List.set_cons_succ]
    rfl
  refine wstep (N := some 41) (v := .bool false) (a' := ?_) rfl (by rfl) (fun w' _ => by go_simp) ?_ ?_
  rotate_left
  · simp only [Act.put, List.setIfInBounds_toArray, List.set_cons_zero, List.set_cons_succ]
    rfl
  refine wstep (N := some 42) (v := .int .i64 ay) (a' := ?_) rfl (by rfl) (fun w' _ => by go_simp) ?_ ?_
  rotate_left
  · simp only [Act.put, List.setIfInBounds_toArray, List.set_cons_zero, List.set_cons_succ]
    rfl
  refine wstep (N := some 43) (v := .bool false) (a' := ?_) rfl (by rfl) (fun w' _ => by go_simp; (try simp only [i64_w]); first | exact P5.out | (have h_ := P5.out; omega) | exact cmp_ P5.out | exact cmpd_ P5.out | exact cmpf_ P5.out) ?_ ?_
  rotate_left
  · simp only [Act.put, List.setIfInBounds_toArray, List.set_cons_zero, List.set_cons_succ]
    rfl
  refine wstep (N := some 44) (v := .bool false) (a' := ?_) rfl (by rfl) (fun w' _ => by go_simp) ?_ ?_
  rotate_left
  · simp only [Act.put, List.setIfInBounds_toArray, List.set_cons_zero, List.set_cons_succ]
    rfl
  refine wstep (N := some 45) (v := .bool false) (a' := ?_) rfl (by rfl) (fun w' _ => by go_simp) ?_ ?_
  rotate_left
  · simp only [Act.put, List.setIfInBounds_toArray, List.set_cons_zero, List.set_cons_succ]
    rfl
  refine wstep (N := some 46) (v := .int .i64 ny) (a' := ?_) rfl (by rfl) (fun w' _ => by go_simp) ?_ ?_
  rotate_left
  · simp only [Act.put, List.setIfInBounds_toArray, List.set_cons_zero, List.set_cons_succ]
    rfl
  refine wstep (N := some 47) (v := .bool false) (a' := ?_) rfl (by rfl) (fun w' _ => by go_simp; (try simp only [i64_w]); first | exact P6.out | (have h_ := P6.out; omega) | exact cmp_ P6.out | exact cmpd_ P6.out | exact cmpf_ P6.out) ?_ ?_
  rotate_left
  · simp only [Act.put, List.setIfInBounds_toArray, List.set_cons_zero, List.set_cons_succ]
    rfl
  refine wstep (N := some 48) (v := .bool false) (a' := ?_) rfl (by rfl) (fun w' _ => by go_simp) ?_ ?_
  rotate_left
  · simp only [Act.put, List.setIfInBounds_toArray, List.set_cons_zero, List.set_cons_succ]
    rfl
  refine wstep (N := some 49) (v := .bool false) (a' := ?_) rfl (by rfl) (fun w' _ => by go_simp) ?_ ?_
  rotate_left
  · simp only [Act.put, List.setIfInBounds_toArray, List.set_cons_zero, List.set_cons_succ]
    rfl
  refine wstep (N := some 50) (v := .int .i64 ny) (a' := ?_) rfl (by rfl) (fun w' _ => by go_simp) ?_ ?_
  rotate_left
  · simp only [Act.put, List.setIfInBounds_toArray, List.set_cons_zero, List.set_cons_succ]
    rfl
  refine wstep (N := some 51) (v := .pointer (some ⟨(w.heap.size + 1), 1, none⟩)) (a' := ?_) rfl (by rfl) (fun w' _ => by go_simp) ?_ ?_
  rotate_left
  · simp only [Act.put, List.setIfInBounds_toArray, List.set_cons_zero, List.set_cons_succ]
    rfl
  refine wstep (N := some 52) (v := .int .i64 ts1) (a' := ?_) rfl (by rfl) (fun w' h => load_cell (h.blk0) HC_ts_1.out rfl rfl Try.underlying3 rfl) ?_ ?_
  rotate_left
  · simp only [Act.put, List.setIfInBounds_toArray, List.set_cons_zero, List.set_cons_succ]
    rfl
  refine wstep (N := some 53) (v := .bool true) (a' := ?_) rfl (by rfl) (fun w' _ => by go_simp; (try simp only [i64_w]); first | exact P7.out | (have h_ := P7.out; omega) | exact cmp_ P7.out | exact cmpd_ P7.out | exact cmpf_ P7.out) ?_ ?_
  rotate_left
  · simp only [Act.put, List.setIfInBounds_toArray, List.set_cons_zero, List.set_cons_succ]
    rfl
  refine wstep (N := some 54) (v := .bool true) (a' := ?_) rfl (by rfl) (fun w' _ => by go_simp) ?_ ?_
  rotate_left
  · simp only [Act.put, List.setIfInBounds_toArray, List.set_cons_zero, List.set_cons_succ]
    rfl
  refine wstep (N := some 55) (v := .bool true) (a' := ?_) rfl (by rfl) (fun w' _ => by go_simp) ?_ ?_
  rotate_left
  · simp only [Act.put, List.setIfInBounds_toArray, List.set_cons_zero, List.set_cons_succ]
    rfl
  refine wskip (N := some 56) (a' := ?_) rfl (by rfl) ?_ ?_
  rotate_left
  · simp only [Act.put, List.setIfInBounds_toArray, List.set_cons_zero, List.set_cons_succ]
    rfl
  refine wskip (N := some 57) (a' := ?_) rfl (by rfl) ?_ ?_
  rotate_left
  · simp only [Act.put, List.setIfInBounds_toArray, List.set_cons_zero, List.set_cons_succ]
    rfl
  refine wstep (N := some 58) (v := .bool true) (a' := ?_) rfl (by rfl) (fun w' _ => by go_simp) ?_ ?_
  rotate_left
  · simp only [Act.put, List.setIfInBounds_toArray, List.set_cons_zero, List.set_cons_succ]
    rfl
  refine wstep (N := some 59) (v := .bool true) (a' := ?_) rfl (by rfl) (fun w' _ => by go_simp) ?_ ?_
  rotate_left
  · simp only [Act.put, List.setIfInBounds_toArray, List.set_cons_zero, List.set_cons_succ]
    rfl
  refine wskip (N := some 60) (a' := ?_) rfl (by rfl) ?_ ?_
  rotate_left
  · simp only [Act.put, List.setIfInBounds_toArray, List.set_cons_zero, List.set_cons_succ]
    rfl
  refine wskip (N := some 61) (a' := ?_) rfl (by rfl) ?_ ?_
  rotate_left
  · simp only [Act.put, List.setIfInBounds_toArray, List.set_cons_zero, List.set_cons_succ]
    rfl
  refine wstep (N := some 62) (v := .bool true) (a' := ?_) rfl (by rfl) (fun w' _ => by go_simp) ?_ ?_
  rotate_left
  · simp only [Act.put, List.setIfInBounds_toArray, List.set_cons_zero, List.set_cons_succ]
    rfl
  refine wnil ?_
  intro w_h1 h1_
  have h1 := Aside0.mk h1_
  clear h1_
  go_wp2
  go_ret
  exact ⟨rfl, h1.out.below⟩

set_option maxHeartbeats 4000000 in
set_option maxRecDepth 100000 in
theorem early9 (cs : Array Value) (ts : Array Value) (issued : Int) (e : Int) (later : Int) (ay : Int) (ny : Int) (su : Int) (cs0 cs1 cs2 cs3 cs4 cs5 cs6 cs7 cs8 cs9 cs10 cs11 cs12 cs13 cs14 cs15 cs16 cs17 ts0 ts1 ts2 : Int)  (w : World) (HS_cs : Aside0 (cs.size = 18)) (HS_ts : Aside0 (ts.size = 3)) (HC_ts_1 : Aside0 (ts[1]? = some (.int .i64 ts1)))
    (H22 : Aside0 (Rets Try.prog 22 #[.agg cs] (.bool true)))
    (P0 : Aside0 (¬ (e < 0)))
    (P1 : Aside0 (¬ (e > 1073741824)))
    (P2 : Aside0 (¬ (later < 0)))
    (P3 : Aside0 (¬ (later > 1048576)))
    (P4 : Aside0 (¬ (ay < 0)))
    (P5 : Aside0 (¬ (ay > 1048576)))
    (P6 : Aside0 (¬ (ny < 0)))
    (P7 : Aside0 (¬ (ny > ts1)))
    (P8 : Aside0 (su < 0)) :
    Calls Try.prog 5 #[.agg cs, .agg ts, .int .i64 issued, .int .i64 e, .int .i64 later, .int .i64 ay, .int .i64 ny, .int .i64 su] w fun e w' => e = .returned (.bool true) ∧ Below w.heap.size w w' := by
  have HCl : Aside0 (Cls w ((w.heap.size + 1, ts, 29) :: (w.heap.size, cs, 25) :: []) ((w.alloc (.cells cs 25 (0, 0))).alloc (.cells ts 29 (0, 0)))) := ⟨Cls.put2 w _ _ _ _⟩
  go_enter Try.func5, Try.ntmps5
  go_upto_region 1 with (fail)
  refine wregion_p (C := Cls w ((w.heap.size + 1, ts, 29) :: (w.heap.size, cs, 25) :: [])) (HCl.out) ?_
  refine wstep (N := some 18) (v := .agg cs) (a' := ?_) rfl (by rfl) (fun w' h => load_row (h.blk1) rfl rfl Try.underlying25 rfl (by rw [HS_cs.out]; exact info25)) ?_ ?_
  rotate_left
  · simp only [Act.put, List.setIfInBounds_toArray, List.set_cons_zero, List.set_cons_succ]
    rfl
  refine wcall (N := some 19) (a' := ?_) (f := 22) Try.func22 (by kernel_rfl) rfl #[.agg cs] (by rfl) rfl rfl (by (try simp only [List.map_toArray, List.map_cons, List.map_nil]); first | done | rfl) (qcall_cls (v := .bool true) H22.out) ?_ ?_
  rotate_left
  · simp only [Act.put, List.setIfInBounds_toArray, List.set_cons_zero, List.set_cons_succ]
    rfl
  refine wstep (N := some 20) (v := .bool false) (a' := ?_) rfl (by rfl) (fun w' _ => by go_simp) ?_ ?_
  rotate_left
  · simp only [Act.put, List.setIfInBounds_toArray, List.set_cons_zero, List.set_cons_succ]
    rfl
  refine wstep (N := some 21) (v := .bool false) (a' := ?_) rfl (by rfl) (fun w' _ => by go_simp) ?_ ?_
  rotate_left
  · simp only [Act.put, List.setIfInBounds_toArray, List.set_cons_zero, List.set_cons_succ]
    rfl
  refine wstep (N := some 22) (v := .int .i64 e) (a' := ?_) rfl (by rfl) (fun w' _ => by go_simp) ?_ ?_
  rotate_left
  · simp only [Act.put, List.setIfInBounds_toArray, List.set_cons_zero, List.set_cons_succ]
    rfl
  refine wstep (N := some 23) (v := .bool false) (a' := ?_) rfl (by rfl) (fun w' _ => by go_simp; (try simp only [i64_w]); first | exact P0.out | (have h_ := P0.out; omega) | exact cmp_ P0.out | exact cmpd_ P0.out | exact cmpf_ P0.out) ?_ ?_
  rotate_left
  · simp only [Act.put, List.setIfInBounds_toArray, List.set_cons_zero, List.set_cons_succ]
    rfl
  refine wstep (N := some 24) (v := .bool false) (a' := ?_) rfl (by rfl) (fun w' _ => by go_simp) ?_ ?_
  rotate_left
  · simp only [Act.put, List.setIfInBounds_toArray, List.set_cons_zero, List.set_cons_succ]
    rfl
  refine wstep (N := some 25) (v := .bool false) (a' := ?_) rfl (by rfl) (fun w' _ => by go_simp) ?_ ?_
  rotate_left
  · simp only [Act.put, List.setIfInBounds_toArray, List.set_cons_zero, List.set_cons_succ]
    rfl
  refine wstep (N := some 26) (v := .int .i64 e) (a' := ?_) rfl (by rfl) (fun w' _ => by go_simp) ?_ ?_
  rotate_left
  · simp only [Act.put, List.setIfInBounds_toArray, List.set_cons_zero, List.set_cons_succ]
    rfl
  refine wstep (N := some 27) (v := .bool false) (a' := ?_) rfl (by rfl) (fun w' _ => by go_simp; (try simp only [i64_w]); first | exact P1.out | (have h_ := P1.out; omega) | exact cmp_ P1.out | exact cmpd_ P1.out | exact cmpf_ P1.out) ?_ ?_
  rotate_left
  · simp only [Act.put, List.setIfInBounds_toArray, List.set_cons_zero, List.set_cons_succ]
    rfl
  refine wstep (N := some 28) (v := .bool false) (a' := ?_) rfl (by rfl) (fun w' _ => by go_simp) ?_ ?_
  rotate_left
  · simp only [Act.put, List.setIfInBounds_toArray, List.set_cons_zero, List.set_cons_succ]
    rfl
  refine wstep (N := some 29) (v := .bool false) (a' := ?_) rfl (by rfl) (fun w' _ => by go_simp) ?_ ?_
  rotate_left
  · simp only [Act.put, List.setIfInBounds_toArray, List.set_cons_zero, List.set_cons_succ]
    rfl
  refine wstep (N := some 30) (v := .int .i64 later) (a' := ?_) rfl (by rfl) (fun w' _ => by go_simp) ?_ ?_
  rotate_left
  · simp only [Act.put, List.setIfInBounds_toArray, List.set_cons_zero, List.set_cons_succ]
    rfl
  refine wstep (N := some 31) (v := .bool false) (a' := ?_) rfl (by rfl) (fun w' _ => by go_simp; (try simp only [i64_w]); first | exact P2.out | (have h_ := P2.out; omega) | exact cmp_ P2.out | exact cmpd_ P2.out | exact cmpf_ P2.out) ?_ ?_
  rotate_left
  · simp only [Act.put, List.setIfInBounds_toArray, List.set_cons_zero, List.set_cons_succ]
    rfl
  refine wstep (N := some 32) (v := .bool false) (a' := ?_) rfl (by rfl) (fun w' _ => by go_simp) ?_ ?_
  rotate_left
  · simp only [Act.put, List.setIfInBounds_toArray, List.set_cons_zero, List.set_cons_succ]
    rfl
  refine wstep (N := some 33) (v := .bool false) (a' := ?_) rfl (by rfl) (fun w' _ => by go_simp) ?_ ?_
  rotate_left
  · simp only [Act.put, List.setIfInBounds_toArray, List.set_cons_zero, List.set_cons_succ]
    rfl
  refine wstep (N := some 34) (v := .int .i64 later) (a' := ?_) rfl (by rfl) (fun w' _ => by go_simp) ?_ ?_
  rotate_left
  · simp only [Act.put, List.setIfInBounds_toArray, List.set_cons_zero, List.set_cons_succ]
    rfl
  refine wstep (N := some 35) (v := .bool false) (a' := ?_) rfl (by rfl) (fun w' _ => by go_simp; (try simp only [i64_w]); first | exact P3.out | (have h_ := P3.out; omega) | exact cmp_ P3.out | exact cmpd_ P3.out | exact cmpf_ P3.out) ?_ ?_
  rotate_left
  · simp only [Act.put, List.setIfInBounds_toArray, List.set_cons_zero, List.set_cons_succ]
    rfl
  refine wstep (N := some 36) (v := .bool false) (a' := ?_) rfl (by rfl) (fun w' _ => by go_simp) ?_ ?_
  rotate_left
  · simp only [Act.put, List.setIfInBounds_toArray, List.set_cons_zero, List.set_cons_succ]
    rfl
  refine wstep (N := some 37) (v := .bool false) (a' := ?_) rfl (by rfl) (fun w' _ => by go_simp) ?_ ?_
  rotate_left
  · simp only [Act.put, List.setIfInBounds_toArray, List.set_cons_zero, List.set_cons_succ]
    rfl
  refine wstep (N := some 38) (v := .int .i64 ay) (a' := ?_) rfl (by rfl) (fun w' _ => by go_simp) ?_ ?_
  rotate_left
  · simp only [Act.put, List.setIfInBounds_toArray, List.set_cons_zero, List.set_cons_succ]
    rfl
  refine wstep (N := some 39) (v := .bool false) (a' := ?_) rfl (by rfl) (fun w' _ => by go_simp; (try simp only [i64_w]); first | exact P4.out | (have h_ := P4.out; omega) | exact cmp_ P4.out | exact cmpd_ P4.out | exact cmpf_ P4.out) ?_ ?_
  rotate_left
  · simp only [Act.put, List.setIfInBounds_toArray, List.set_cons_zero, List.set_cons_succ]
    rfl
  refine wstep (N := some 40) (v := .bool false) (a' := ?_) rfl (by rfl) (fun w' _ => by go_simp) ?_ ?_
  rotate_left
  · simp only [Act.put, List.setIfInBounds_toArray, List.set_cons_zero, List.set_cons_succ]
    rfl
  refine wstep (N := some 41) (v := .bool false) (a' := ?_) rfl (by rfl) (fun w' _ => by go_simp) ?_ ?_
  rotate_left
  · simp only [Act.put, List.setIfInBounds_toArray, List.set_cons_zero, List.set_cons_succ]
    rfl
  refine wstep (N := some 42) (v := .int .i64 ay) (a' := ?_) rfl (by rfl) (fun w' _ => by go_simp) ?_ ?_
  rotate_left
  · simp only [Act.put, List.setIfInBounds_toArray, List.set_cons_zero, List.set_cons_succ]
    rfl
  refine wstep (N := some 43) (v := .bool false) (a' := ?_) rfl (by rfl) (fun w' _ => by go_simp; (try simp only [i64_w]); first | exact P5.out | (have h_ := P5.out; omega) | exact cmp_ P5.out | exact cmpd_ P5.out | exact cmpf_ P5.out) ?_ ?_
  rotate_left
  · simp only [Act.put, List.setIfInBounds_toArray, List.set_cons_zero, List.set_cons_succ]
    rfl
  refine wstep (N := some 44) (v := .bool false) (a' := ?_) rfl (by rfl) (fun w' _ => by go_simp) ?_ ?_
  rotate_left
  · simp only [Act.put, List.setIfInBounds_toArray, List.set_cons_zero, List.set_cons_succ]
    rfl
  refine wstep (N := some 45) (v := .bool false) (a' := ?_) rfl (by rfl) (fun w' _ => by go_simp) ?_ ?_
  rotate_left
  · simp only [Act.put, List.setIfInBounds_toArray, List.set_cons_zero, List.set_cons_succ]
    rfl
  refine wstep (N := some 46) (v := .int .i64 ny) (a' := ?_) rfl (by rfl) (fun w' _ => by go_simp) ?_ ?_
  rotate_left
  · simp only [Act.put, List.setIfInBounds_toArray, List.set_cons_zero, List.set_cons_succ]
    rfl
  refine wstep (N := some 47) (v := .bool false) (a' := ?_) rfl (by rfl) (fun w' _ => by go_simp; (try simp only [i64_w]); first | exact P6.out | (have h_ := P6.out; omega) | exact cmp_ P6.out | exact cmpd_ P6.out | exact cmpf_ P6.out) ?_ ?_
  rotate_left
  · simp only [Act.put, List.setIfInBounds_toArray, List.set_cons_zero, List.set_cons_succ]
    rfl
  refine wstep (N := some 48) (v := .bool false) (a' := ?_) rfl (by rfl) (fun w' _ => by go_simp) ?_ ?_
  rotate_left
  · simp only [Act.put, List.setIfInBounds_toArray, List.set_cons_zero, List.set_cons_succ]
    rfl
  refine wstep (N := some 49) (v := .bool false) (a' := ?_) rfl (by rfl) (fun w' _ => by go_simp) ?_ ?_
  rotate_left
  · simp only [Act.put, List.setIfInBounds_toArray, List.set_cons_zero, List.set_cons_succ]
    rfl
  refine wstep (N := some 50) (v := .int .i64 ny) (a' := ?_) rfl (by rfl) (fun w' _ => by go_simp) ?_ ?_
  rotate_left
  · simp only [Act.put, List.setIfInBounds_toArray, List.set_cons_zero, List.set_cons_succ]
    rfl
  refine wstep (N := some 51) (v := .pointer (some ⟨(w.heap.size + 1), 1, none⟩)) (a' := ?_) rfl (by rfl) (fun w' _ => by go_simp) ?_ ?_
  rotate_left
  · simp only [Act.put, List.setIfInBounds_toArray, List.set_cons_zero, List.set_cons_succ]
    rfl
  refine wstep (N := some 52) (v := .int .i64 ts1) (a' := ?_) rfl (by rfl) (fun w' h => load_cell (h.blk0) HC_ts_1.out rfl rfl Try.underlying3 rfl) ?_ ?_
  rotate_left
  · simp only [Act.put, List.setIfInBounds_toArray, List.set_cons_zero, List.set_cons_succ]
    rfl
  refine wstep (N := some 53) (v := .bool false) (a' := ?_) rfl (by rfl) (fun w' _ => by go_simp; (try simp only [i64_w]); first | exact P7.out | (have h_ := P7.out; omega) | exact cmp_ P7.out | exact cmpd_ P7.out | exact cmpf_ P7.out) ?_ ?_
  rotate_left
  · simp only [Act.put, List.setIfInBounds_toArray, List.set_cons_zero, List.set_cons_succ]
    rfl
  refine wstep (N := some 54) (v := .bool false) (a' := ?_) rfl (by rfl) (fun w' _ => by go_simp) ?_ ?_
  rotate_left
  · simp only [Act.put, List.setIfInBounds_toArray, List.set_cons_zero, List.set_cons_succ]
    rfl
  refine wstep (N := some 55) (v := .bool false) (a' := ?_) rfl (by rfl) (fun w' _ => by go_simp) ?_ ?_
  rotate_left
  · simp only [Act.put, List.setIfInBounds_toArray, List.set_cons_zero, List.set_cons_succ]
    rfl
  refine wstep (N := some 56) (v := .int .i64 su) (a' := ?_) rfl (by rfl) (fun w' _ => by go_simp) ?_ ?_
  rotate_left
  · simp only [Act.put, List.setIfInBounds_toArray, List.set_cons_zero, List.set_cons_succ]
    rfl
  refine wstep (N := some 57) (v := .bool true) (a' := ?_) rfl (by rfl) (fun w' _ => by go_simp; (try simp only [i64_w]); first | exact P8.out | (have h_ := P8.out; omega) | exact cmp_ P8.out | exact cmpd_ P8.out | exact cmpf_ P8.out) ?_ ?_
  rotate_left
  · simp only [Act.put, List.setIfInBounds_toArray, List.set_cons_zero, List.set_cons_succ]
    rfl
  refine wstep (N := some 58) (v := .bool true) (a' := ?_) rfl (by rfl) (fun w' _ => by go_simp) ?_ ?_
  rotate_left
  · simp only [Act.put, List.setIfInBounds_toArray, List.set_cons_zero, List.set_cons_succ]
    rfl
  refine wstep (N := some 59) (v := .bool true) (a' := ?_) rfl (by rfl) (fun w' _ => by go_simp) ?_ ?_
  rotate_left
  · simp only [Act.put, List.setIfInBounds_toArray, List.set_cons_zero, List.set_cons_succ]
    rfl
  refine wskip (N := some 60) (a' := ?_) rfl (by rfl) ?_ ?_
  rotate_left
  · simp only [Act.put, List.setIfInBounds_toArray, List.set_cons_zero, List.set_cons_succ]
    rfl
  refine wskip (N := some 61) (a' := ?_) rfl (by rfl) ?_ ?_
  rotate_left
  · simp only [Act.put, List.setIfInBounds_toArray, List.set_cons_zero, List.set_cons_succ]
    rfl
  refine wstep (N := some 62) (v := .bool true) (a' := ?_) rfl (by rfl) (fun w' _ => by go_simp) ?_ ?_
  rotate_left
  · simp only [Act.put, List.setIfInBounds_toArray, List.set_cons_zero, List.set_cons_succ]
    rfl
  refine wnil ?_
  intro w_h1 h1_
  have h1 := Aside0.mk h1_
  clear h1_
  go_wp2
  go_ret
  exact ⟨rfl, h1.out.below⟩

set_option maxHeartbeats 4000000 in
set_option maxRecDepth 100000 in
theorem early10 (cs : Array Value) (ts : Array Value) (issued : Int) (e : Int) (later : Int) (ay : Int) (ny : Int) (su : Int) (cs0 cs1 cs2 cs3 cs4 cs5 cs6 cs7 cs8 cs9 cs10 cs11 cs12 cs13 cs14 cs15 cs16 cs17 ts0 ts1 ts2 : Int)  (w : World) (HS_cs : Aside0 (cs.size = 18)) (HS_ts : Aside0 (ts.size = 3)) (HC_ts_1 : Aside0 (ts[1]? = some (.int .i64 ts1)))
    (H22 : Aside0 (Rets Try.prog 22 #[.agg cs] (.bool true)))
    (P0 : Aside0 (¬ (e < 0)))
    (P1 : Aside0 (¬ (e > 1073741824)))
    (P2 : Aside0 (¬ (later < 0)))
    (P3 : Aside0 (¬ (later > 1048576)))
    (P4 : Aside0 (¬ (ay < 0)))
    (P5 : Aside0 (¬ (ay > 1048576)))
    (P6 : Aside0 (¬ (ny < 0)))
    (P7 : Aside0 (¬ (ny > ts1)))
    (P8 : Aside0 (¬ (su < 0)))
    (P9 : Aside0 (su > 1048576)) :
    Calls Try.prog 5 #[.agg cs, .agg ts, .int .i64 issued, .int .i64 e, .int .i64 later, .int .i64 ay, .int .i64 ny, .int .i64 su] w fun e w' => e = .returned (.bool true) ∧ Below w.heap.size w w' := by
  have HCl : Aside0 (Cls w ((w.heap.size + 1, ts, 29) :: (w.heap.size, cs, 25) :: []) ((w.alloc (.cells cs 25 (0, 0))).alloc (.cells ts 29 (0, 0)))) := ⟨Cls.put2 w _ _ _ _⟩
  go_enter Try.func5, Try.ntmps5
  go_upto_region 1 with (fail)
  refine wregion_p (C := Cls w ((w.heap.size + 1, ts, 29) :: (w.heap.size, cs, 25) :: [])) (HCl.out) ?_
  refine wstep (N := some 18) (v := .agg cs) (a' := ?_) rfl (by rfl) (fun w' h => load_row (h.blk1) rfl rfl Try.underlying25 rfl (by rw [HS_cs.out]; exact info25)) ?_ ?_
  rotate_left
  · simp only [Act.put, List.setIfInBounds_toArray, List.set_cons_zero, List.set_cons_succ]
    rfl
  refine wcall (N := some 19) (a' := ?_) (f := 22) Try.func22 (by kernel_rfl) rfl #[.agg cs] (by rfl) rfl rfl (by (try simp only [List.map_toArray, List.map_cons, List.map_nil]); first | done | rfl) (qcall_cls (v := .bool true) H22.out) ?_ ?_
  rotate_left
  · simp only [Act.put, List.setIfInBounds_toArray, List.set_cons_zero, List.set_cons_succ]
    rfl
  refine wstep (N := some 20) (v := .bool false) (a' := ?_) rfl (by rfl) (fun w' _ => by go_simp) ?_ ?_
  rotate_left
  · simp only [Act.put, List.setIfInBounds_toArray, List.set_cons_zero, List.set_cons_succ]
    rfl
  refine wstep (N := some 21) (v := .bool false) (a' := ?_) rfl (by rfl) (fun w' _ => by go_simp) ?_ ?_
  rotate_left
  · simp only [Act.put, List.setIfInBounds_toArray, List.set_cons_zero, List.set_cons_succ]
    rfl
  refine wstep (N := some 22) (v := .int .i64 e) (a' := ?_) rfl (by rfl) (fun w' _ => by go_simp) ?_ ?_
  rotate_left
  · simp only [Act.put, List.setIfInBounds_toArray, List.set_cons_zero, List.set_cons_succ]
    rfl
  refine wstep (N := some 23) (v := .bool false) (a' := ?_) rfl (by rfl) (fun w' _ => by go_simp; (try simp only [i64_w]); first | exact P0.out | (have h_ := P0.out; omega) | exact cmp_ P0.out | exact cmpd_ P0.out | exact cmpf_ P0.out) ?_ ?_
  rotate_left
  · simp only [Act.put, List.setIfInBounds_toArray, List.set_cons_zero, List.set_cons_succ]
    rfl
  refine wstep (N := some 24) (v := .bool false) (a' := ?_) rfl (by rfl) (fun w' _ => by go_simp) ?_ ?_
  rotate_left
  · simp only [Act.put, List.setIfInBounds_toArray, List.set_cons_zero, List.set_cons_succ]
    rfl
  refine wstep (N := some 25) (v := .bool false) (a' := ?_) rfl (by rfl) (fun w' _ => by go_simp) ?_ ?_
  rotate_left
  · simp only [Act.put, List.setIfInBounds_toArray, List.set_cons_zero, List.set_cons_succ]
    rfl
  refine wstep (N := some 26) (v := .int .i64 e) (a' := ?_) rfl (by rfl) (fun w' _ => by go_simp) ?_ ?_
  rotate_left
  · simp only [Act.put, List.setIfInBounds_toArray, List.set_cons_zero, List.set_cons_succ]
    rfl
  refine wstep (N := some 27) (v := .bool false) (a' := ?_) rfl (by rfl) (fun w' _ => by go_simp; (try simp only [i64_w]); first | exact P1.out | (have h_ := P1.out; omega) | exact cmp_ P1.out | exact cmpd_ P1.out | exact cmpf_ P1.out) ?_ ?_
  rotate_left
  · simp only [Act.put, List.setIfInBounds_toArray, List.set_cons_zero, List.set_cons_succ]
    rfl
  refine wstep (N := some 28) (v := .bool false) (a' := ?_) rfl (by rfl) (fun w' _ => by go_simp) ?_ ?_
  rotate_left
  · simp only [Act.put, List.setIfInBounds_toArray, List.set_cons_zero, List.set_cons_succ]
    rfl
  refine wstep (N := some 29) (v := .bool false) (a' := ?_) rfl (by rfl) (fun w' _ => by go_simp) ?_ ?_
  rotate_left
  · simp only [Act.put, List.setIfInBounds_toArray, List.set_cons_zero, List.set_cons_succ]
    rfl
  refine wstep (N := some 30) (v := .int .i64 later) (a' := ?_) rfl (by rfl) (fun w' _ => by go_simp) ?_ ?_
  rotate_left
  · simp only [Act.put, List.setIfInBounds_toArray, List.set_cons_zero, List.set_cons_succ]
    rfl
  refine wstep (N := some 31) (v := .bool false) (a' := ?_) rfl (by rfl) (fun w' _ => by go_simp; (try simp only [i64_w]); first | exact P2.out | (have h_ := P2.out; omega) | exact cmp_ P2.out | exact cmpd_ P2.out | exact cmpf_ P2.out) ?_ ?_
  rotate_left
  · simp only [Act.put, List.setIfInBounds_toArray, List.set_cons_zero, List.set_cons_succ]
    rfl
  refine wstep (N := some 32) (v := .bool false) (a' := ?_) rfl (by rfl) (fun w' _ => by go_simp) ?_ ?_
  rotate_left
  · simp only [Act.put, List.setIfInBounds_toArray, List.set_cons_zero, List.set_cons_succ]
    rfl
  refine wstep (N := some 33) (v := .bool false) (a' := ?_) rfl (by rfl) (fun w' _ => by go_simp) ?_ ?_
  rotate_left
  · simp only [Act.put, List.setIfInBounds_toArray, List.set_cons_zero, List.set_cons_succ]
    rfl
  refine wstep (N := some 34) (v := .int .i64 later) (a' := ?_) rfl (by rfl) (fun w' _ => by go_simp) ?_ ?_
  rotate_left
  · simp only [Act.put, List.setIfInBounds_toArray, List.set_cons_zero, List.set_cons_succ]
    rfl
  refine wstep (N := some 35) (v := .bool false) (a' := ?_) rfl (by rfl) (fun w' _ => by go_simp; (try simp only [i64_w]); first | exact P3.out | (have h_ := P3.out; omega) | exact cmp_ P3.out | exact cmpd_ P3.out | exact cmpf_ P3.out) ?_ ?_
  rotate_left
  · simp only [Act.put, List.setIfInBounds_toArray, List.set_cons_zero, List.set_cons_succ]
    rfl
  refine wstep (N := some 36) (v := .bool false) (a' := ?_) rfl (by rfl) (fun w' _ => by go_simp) ?_ ?_
  rotate_left
  · simp only [Act.put, List.setIfInBounds_toArray, List.set_cons_zero, List.set_cons_succ]
    rfl
  refine wstep (N := some 37) (v := .bool false) (a' := ?_) rfl (by rfl) (fun w' _ => by go_simp) ?_ ?_
  rotate_left
  · simp only [Act.put, List.setIfInBounds_toArray, List.set_cons_zero, List.set_cons_succ]
    rfl
  refine wstep (N := some 38) (v := .int .i64 ay) (a' := ?_) rfl (by rfl) (fun w' _ => by go_simp) ?_ ?_
  rotate_left
  · simp only [Act.put, List.setIfInBounds_toArray, List.set_cons_zero, List.set_cons_succ]
    rfl
  refine wstep (N := some 39) (v := .bool false) (a' := ?_) rfl (by rfl) (fun w' _ => by go_simp; (try simp only [i64_w]); first | exact P4.out | (have h_ := P4.out; omega) | exact cmp_ P4.out | exact cmpd_ P4.out | exact cmpf_ P4.out) ?_ ?_
  rotate_left
  · simp only [Act.put, List.setIfInBounds_toArray, List.set_cons_zero, List.set_cons_succ]
    rfl
  refine wstep (N := some 40) (v := .bool false) (a' := ?_) rfl (by rfl) (fun w' _ => by go_simp) ?_ ?_
  rotate_left
  · simp only [Act.put, List.setIfInBounds_toArray, List.set_cons_zero, List.set_cons_succ]
    rfl
  refine wstep (N := some 41) (v := .bool false) (a' := ?_) rfl (by rfl) (fun w' _ => by go_simp) ?_ ?_
  rotate_left
  · simp only [Act.put, List.setIfInBounds_toArray, List.set_cons_zero, List.set_cons_succ]
    rfl
  refine wstep (N := some 42) (v := .int .i64 ay) (a' := ?_) rfl (by rfl) (fun w' _ => by go_simp) ?_ ?_
  rotate_left
  · simp only [Act.put, List.setIfInBounds_toArray, List.set_cons_zero, List.set_cons_succ]
    rfl
  refine wstep (N := some 43) (v := .bool false) (a' := ?_) rfl (by rfl) (fun w' _ => by go_simp; (try simp only [i64_w]); first | exact P5.out | (have h_ := P5.out; omega) | exact cmp_ P5.out | exact cmpd_ P5.out | exact cmpf_ P5.out) ?_ ?_
  rotate_left
  · simp only [Act.put, List.setIfInBounds_toArray, List.set_cons_zero, List.set_cons_succ]
    rfl
  refine wstep (N := some 44) (v := .bool false) (a' := ?_) rfl (by rfl) (fun w' _ => by go_simp) ?_ ?_
  rotate_left
  · simp only [Act.put, List.setIfInBounds_toArray, List.set_cons_zero, List.set_cons_succ]
    rfl
  refine wstep (N := some 45) (v := .bool false) (a' := ?_) rfl (by rfl) (fun w' _ => by go_simp) ?_ ?_
  rotate_left
  · simp only [Act.put, List.setIfInBounds_toArray, List.set_cons_zero, List.set_cons_succ]
    rfl
  refine wstep (N := some 46) (v := .int .i64 ny) (a' := ?_) rfl (by rfl) (fun w' _ => by go_simp) ?_ ?_
  rotate_left
  · simp only [Act.put, List.setIfInBounds_toArray, List.set_cons_zero, List.set_cons_succ]
    rfl
  refine wstep (N := some 47) (v := .bool false) (a' := ?_) rfl (by rfl) (fun w' _ => by go_simp; (try simp only [i64_w]); first | exact P6.out | (have h_ := P6.out; omega) | exact cmp_ P6.out | exact cmpd_ P6.out | exact cmpf_ P6.out) ?_ ?_
  rotate_left
  · simp only [Act.put, List.setIfInBounds_toArray, List.set_cons_zero, List.set_cons_succ]
    rfl
  refine wstep (N := some 48) (v := .bool false) (a' := ?_) rfl (by rfl) (fun w' _ => by go_simp) ?_ ?_
  rotate_left
  · simp only [Act.put, List.setIfInBounds_toArray, List.set_cons_zero, List.set_cons_succ]
    rfl
  refine wstep (N := some 49) (v := .bool false) (a' := ?_) rfl (by rfl) (fun w' _ => by go_simp) ?_ ?_
  rotate_left
  · simp only [Act.put, List.setIfInBounds_toArray, List.set_cons_zero, List.set_cons_succ]
    rfl
  refine wstep (N := some 50) (v := .int .i64 ny) (a' := ?_) rfl (by rfl) (fun w' _ => by go_simp) ?_ ?_
  rotate_left
  · simp only [Act.put, List.setIfInBounds_toArray, List.set_cons_zero, List.set_cons_succ]
    rfl
  refine wstep (N := some 51) (v := .pointer (some ⟨(w.heap.size + 1), 1, none⟩)) (a' := ?_) rfl (by rfl) (fun w' _ => by go_simp) ?_ ?_
  rotate_left
  · simp only [Act.put, List.setIfInBounds_toArray, List.set_cons_zero, List.set_cons_succ]
    rfl
  refine wstep (N := some 52) (v := .int .i64 ts1) (a' := ?_) rfl (by rfl) (fun w' h => load_cell (h.blk0) HC_ts_1.out rfl rfl Try.underlying3 rfl) ?_ ?_
  rotate_left
  · simp only [Act.put, List.setIfInBounds_toArray, List.set_cons_zero, List.set_cons_succ]
    rfl
  refine wstep (N := some 53) (v := .bool false) (a' := ?_) rfl (by rfl) (fun w' _ => by go_simp; (try simp only [i64_w]); first | exact P7.out | (have h_ := P7.out; omega) | exact cmp_ P7.out | exact cmpd_ P7.out | exact cmpf_ P7.out) ?_ ?_
  rotate_left
  · simp only [Act.put, List.setIfInBounds_toArray, List.set_cons_zero, List.set_cons_succ]
    rfl
  refine wstep (N := some 54) (v := .bool false) (a' := ?_) rfl (by rfl) (fun w' _ => by go_simp) ?_ ?_
  rotate_left
  · simp only [Act.put, List.setIfInBounds_toArray, List.set_cons_zero, List.set_cons_succ]
    rfl
  refine wstep (N := some 55) (v := .bool false) (a' := ?_) rfl (by rfl) (fun w' _ => by go_simp) ?_ ?_
  rotate_left
  · simp only [Act.put, List.setIfInBounds_toArray, List.set_cons_zero, List.set_cons_succ]
    rfl
  refine wstep (N := some 56) (v := .int .i64 su) (a' := ?_) rfl (by rfl) (fun w' _ => by go_simp) ?_ ?_
  rotate_left
  · simp only [Act.put, List.setIfInBounds_toArray, List.set_cons_zero, List.set_cons_succ]
    rfl
  refine wstep (N := some 57) (v := .bool false) (a' := ?_) rfl (by rfl) (fun w' _ => by go_simp; (try simp only [i64_w]); first | exact P8.out | (have h_ := P8.out; omega) | exact cmp_ P8.out | exact cmpd_ P8.out | exact cmpf_ P8.out) ?_ ?_
  rotate_left
  · simp only [Act.put, List.setIfInBounds_toArray, List.set_cons_zero, List.set_cons_succ]
    rfl
  refine wstep (N := some 58) (v := .bool false) (a' := ?_) rfl (by rfl) (fun w' _ => by go_simp) ?_ ?_
  rotate_left
  · simp only [Act.put, List.setIfInBounds_toArray, List.set_cons_zero, List.set_cons_succ]
    rfl
  refine wstep (N := some 59) (v := .bool false) (a' := ?_) rfl (by rfl) (fun w' _ => by go_simp) ?_ ?_
  rotate_left
  · simp only [Act.put, List.setIfInBounds_toArray, List.set_cons_zero, List.set_cons_succ]
    rfl
  refine wstep (N := some 60) (v := .int .i64 su) (a' := ?_) rfl (by rfl) (fun w' _ => by go_simp) ?_ ?_
  rotate_left
  · simp only [Act.put, List.setIfInBounds_toArray, List.set_cons_zero, List.set_cons_succ]
    rfl
  refine wstep (N := some 61) (v := .bool true) (a' := ?_) rfl (by rfl) (fun w' _ => by go_simp; (try simp only [i64_w]); first | exact P9.out | (have h_ := P9.out; omega) | exact cmp_ P9.out | exact cmpd_ P9.out | exact cmpf_ P9.out) ?_ ?_
  rotate_left
  · simp only [Act.put, List.setIfInBounds_toArray, List.set_cons_zero, List.set_cons_succ]
    rfl
  refine wstep (N := some 62) (v := .bool true) (a' := ?_) rfl (by rfl) (fun w' _ => by go_simp) ?_ ?_
  rotate_left
  · simp only [Act.put, List.setIfInBounds_toArray, List.set_cons_zero, List.set_cons_succ]
    rfl
  refine wnil ?_
  intro w_h1 h1_
  have h1 := Aside0.mk h1_
  clear h1_
  go_wp2
  go_ret
  exact ⟨rfl, h1.out.below⟩

set_option maxHeartbeats 4000000 in
set_option maxRecDepth 100000 in
theorem mainA (cs : Array Value) (ts : Array Value) (issued : Int) (e : Int) (later : Int) (ay : Int) (ny : Int) (su : Int) (cs0 cs1 cs2 cs3 cs4 cs5 cs6 cs7 cs8 cs9 cs10 cs11 cs12 cs13 cs14 cs15 cs16 cs17 ts0 ts1 ts2 : Int) (y0 y1 y2 : Int) (w : World) (HS_cs : Aside0 (cs.size = 18)) (HS_ts : Aside0 (ts.size = 3)) (HC_ts_0 : Aside0 (ts[0]? = some (.int .i64 ts0))) (HC_ts_2 : Aside0 (ts[2]? = some (.int .i64 ts2))) (HC_ts_1 : Aside0 (ts[1]? = some (.int .i64 ts1)))
    (H22 : Aside0 (Rets Try.prog 22 #[.agg cs] (.bool true)))
    (H23 : Aside0 (Rets Try.prog 23 #[] (.bool true)))
    (H24x : Aside0 (Rets Try.prog 24 #[.agg ts, .int .i64 issued] (.bool false)))
    (Y0 : Aside0 (wrap64 ((if (if 0 < ts0 then ts0 else 0) < 8589934592 then if 0 < ts0 then ts0 else 0 else 8589934592) + ay) = y0))
    (Y1 : Aside0 (wrap64 (ts1 - ny) = y1))
    (Y2 : Aside0 (wrap64 ((if (if 0 < ts2 then ts2 else 0) < 8589934592 then if 0 < ts2 then ts2 else 0 else 8589934592) + su) = y2))
    (P0 : Aside0 (¬ (e < 0)))
    (P1 : Aside0 (¬ (e > 1073741824)))
    (P2 : Aside0 (¬ (later < 0)))
    (P3 : Aside0 (¬ (later > 1048576)))
    (P4 : Aside0 (¬ (ay < 0)))
    (P5 : Aside0 (¬ (ay > 1048576)))
    (P6 : Aside0 (¬ (ny < 0)))
    (P7 : Aside0 (¬ (ny > ts1)))
    (P8 : Aside0 (¬ (su < 0)))
    (P9 : Aside0 (¬ (su > 1048576))) :
    Calls Try.prog 5 #[.agg cs, .agg ts, .int .i64 issued, .int .i64 e, .int .i64 later, .int .i64 ay, .int .i64 ny, .int .i64 su] w fun e w' => e = .returned (.bool true) ∧ Below w.heap.size w w' := by
  have HCl : Aside0 (Cls w ((w.heap.size + 1, ts, 29) :: (w.heap.size, cs, 25) :: []) ((w.alloc (.cells cs 25 (0, 0))).alloc (.cells ts 29 (0, 0)))) := ⟨Cls.put2 w _ _ _ _⟩
  go_enter Try.func5, Try.ntmps5
  go_upto_region 1 with (fail)
  refine wregion_p (C := Cls w ((w.heap.size + 1, ts, 29) :: (w.heap.size, cs, 25) :: [])) (HCl.out) ?_
  refine wstep (N := some 18) (v := .agg cs) (a' := ?_) rfl (by rfl) (fun w' h => load_row (h.blk1) rfl rfl Try.underlying25 rfl (by rw [HS_cs.out]; exact info25)) ?_ ?_
  rotate_left
  · simp only [Act.put, List.setIfInBounds_toArray, List.set_cons_zero, List.set_cons_succ]
    rfl
  refine wcall (N := some 19) (a' := ?_) (f := 22) Try.func22 (by kernel_rfl) rfl #[.agg cs] (by rfl) rfl rfl (by (try simp only [List.map_toArray, List.map_cons, List.map_nil]); first | done | rfl) (qcall_cls (v := .bool true) H22.out) ?_ ?_
  rotate_left
  · simp only [Act.put, List.setIfInBounds_toArray, List.set_cons_zero, List.set_cons_succ]
    rfl
  refine wstep (N := some 20) (v := .bool false) (a' := ?_) rfl (by rfl) (fun w' _ => by go_simp) ?_ ?_
  rotate_left
  · simp only [Act.put, List.setIfInBounds_toArray, List.set_cons_zero, List.set_cons_succ]
    rfl
  refine wstep (N := some 21) (v := .bool false) (a' := ?_) rfl (by rfl) (fun w' _ => by go_simp) ?_ ?_
  rotate_left
  · simp only [Act.put, List.setIfInBounds_toArray, List.set_cons_zero, List.set_cons_succ]
    rfl
  refine wstep (N := some 22) (v := .int .i64 e) (a' := ?_) rfl (by rfl) (fun w' _ => by go_simp) ?_ ?_
  rotate_left
  · simp only [Act.put, List.setIfInBounds_toArray, List.set_cons_zero, List.set_cons_succ]
    rfl
  refine wstep (N := some 23) (v := .bool false) (a' := ?_) rfl (by rfl) (fun w' _ => by go_simp; (try simp only [i64_w]); first | exact P0.out | (have h_ := P0.out; omega) | exact cmp_ P0.out | exact cmpd_ P0.out | exact cmpf_ P0.out) ?_ ?_
  rotate_left
  · simp only [Act.put, List.setIfInBounds_toArray, List.set_cons_zero, List.set_cons_succ]
    rfl
  refine wstep (N := some 24) (v := .bool false) (a' := ?_) rfl (by rfl) (fun w' _ => by go_simp) ?_ ?_
  rotate_left
  · simp only [Act.put, List.setIfInBounds_toArray, List.set_cons_zero, List.set_cons_succ]
    rfl
  refine wstep (N := some 25) (v := .bool false) (a' := ?_) rfl (by rfl) (fun w' _ => by go_simp) ?_ ?_
  rotate_left
  · simp only [Act.put, List.setIfInBounds_toArray, List.set_cons_zero, List.set_cons_succ]
    rfl
  refine wstep (N := some 26) (v := .int .i64 e) (a' := ?_) rfl (by rfl) (fun w' _ => by go_simp) ?_ ?_
  rotate_left
  · simp only [Act.put, List.setIfInBounds_toArray, List.set_cons_zero, List.set_cons_succ]
    rfl
  refine wstep (N := some 27) (v := .bool false) (a' := ?_) rfl (by rfl) (fun w' _ => by go_simp; (try simp only [i64_w]); first | exact P1.out | (have h_ := P1.out; omega) | exact cmp_ P1.out | exact cmpd_ P1.out | exact cmpf_ P1.out) ?_ ?_
  rotate_left
  · simp only [Act.put, List.setIfInBounds_toArray, List.set_cons_zero, List.set_cons_succ]
    rfl
  refine wstep (N := some 28) (v := .bool false) (a' := ?_) rfl (by rfl) (fun w' _ => by go_simp) ?_ ?_
  rotate_left
  · simp only [Act.put, List.setIfInBounds_toArray, List.set_cons_zero, List.set_cons_succ]
    rfl
  refine wstep (N := some 29) (v := .bool false) (a' := ?_) rfl (by rfl) (fun w' _ => by go_simp) ?_ ?_
  rotate_left
  · simp only [Act.put, List.setIfInBounds_toArray, List.set_cons_zero, List.set_cons_succ]
    rfl
  refine wstep (N := some 30) (v := .int .i64 later) (a' := ?_) rfl (by rfl) (fun w' _ => by go_simp) ?_ ?_
  rotate_left
  · simp only [Act.put, List.setIfInBounds_toArray, List.set_cons_zero, List.set_cons_succ]
    rfl
  refine wstep (N := some 31) (v := .bool false) (a' := ?_) rfl (by rfl) (fun w' _ => by go_simp; (try simp only [i64_w]); first | exact P2.out | (have h_ := P2.out; omega) | exact cmp_ P2.out | exact cmpd_ P2.out | exact cmpf_ P2.out) ?_ ?_
  rotate_left
  · simp only [Act.put, List.setIfInBounds_toArray, List.set_cons_zero, List.set_cons_succ]
    rfl
  refine wstep (N := some 32) (v := .bool false) (a' := ?_) rfl (by rfl) (fun w' _ => by go_simp) ?_ ?_
  rotate_left
  · simp only [Act.put, List.setIfInBounds_toArray, List.set_cons_zero, List.set_cons_succ]
    rfl
  refine wstep (N := some 33) (v := .bool false) (a' := ?_) rfl (by rfl) (fun w' _ => by go_simp) ?_ ?_
  rotate_left
  · simp only [Act.put, List.setIfInBounds_toArray, List.set_cons_zero, List.set_cons_succ]
    rfl
  refine wstep (N := some 34) (v := .int .i64 later) (a' := ?_) rfl (by rfl) (fun w' _ => by go_simp) ?_ ?_
  rotate_left
  · simp only [Act.put, List.setIfInBounds_toArray, List.set_cons_zero, List.set_cons_succ]
    rfl
  refine wstep (N := some 35) (v := .bool false) (a' := ?_) rfl (by rfl) (fun w' _ => by go_simp; (try simp only [i64_w]); first | exact P3.out | (have h_ := P3.out; omega) | exact cmp_ P3.out | exact cmpd_ P3.out | exact cmpf_ P3.out) ?_ ?_
  rotate_left
  · simp only [Act.put, List.setIfInBounds_toArray, List.set_cons_zero, List.set_cons_succ]
    rfl
  refine wstep (N := some 36) (v := .bool false) (a' := ?_) rfl (by rfl) (fun w' _ => by go_simp) ?_ ?_
  rotate_left
  · simp only [Act.put, List.setIfInBounds_toArray, List.set_cons_zero, List.set_cons_succ]
    rfl
  refine wstep (N := some 37) (v := .bool false) (a' := ?_) rfl (by rfl) (fun w' _ => by go_simp) ?_ ?_
  rotate_left
  · simp only [Act.put, List.setIfInBounds_toArray, List.set_cons_zero, List.set_cons_succ]
    rfl
  refine wstep (N := some 38) (v := .int .i64 ay) (a' := ?_) rfl (by rfl) (fun w' _ => by go_simp) ?_ ?_
  rotate_left
  · simp only [Act.put, List.setIfInBounds_toArray, List.set_cons_zero, List.set_cons_succ]
    rfl
  refine wstep (N := some 39) (v := .bool false) (a' := ?_) rfl (by rfl) (fun w' _ => by go_simp; (try simp only [i64_w]); first | exact P4.out | (have h_ := P4.out; omega) | exact cmp_ P4.out | exact cmpd_ P4.out | exact cmpf_ P4.out) ?_ ?_
  rotate_left
  · simp only [Act.put, List.setIfInBounds_toArray, List.set_cons_zero, List.set_cons_succ]
    rfl
  refine wstep (N := some 40) (v := .bool false) (a' := ?_) rfl (by rfl) (fun w' _ => by go_simp) ?_ ?_
  rotate_left
  · simp only [Act.put, List.setIfInBounds_toArray, List.set_cons_zero, List.set_cons_succ]
    rfl
  refine wstep (N := some 41) (v := .bool false) (a' := ?_) rfl (by rfl) (fun w' _ => by go_simp) ?_ ?_
  rotate_left
  · simp only [Act.put, List.setIfInBounds_toArray, List.set_cons_zero, List.set_cons_succ]
    rfl
  refine wstep (N := some 42) (v := .int .i64 ay) (a' := ?_) rfl (by rfl) (fun w' _ => by go_simp) ?_ ?_
  rotate_left
  · simp only [Act.put, List.setIfInBounds_toArray, List.set_cons_zero, List.set_cons_succ]
    rfl
  refine wstep (N := some 43) (v := .bool false) (a' := ?_) rfl (by rfl) (fun w' _ => by go_simp; (try simp only [i64_w]); first | exact P5.out | (have h_ := P5.out; omega) | exact cmp_ P5.out | exact cmpd_ P5.out | exact cmpf_ P5.out) ?_ ?_
  rotate_left
  · simp only [Act.put, List.setIfInBounds_toArray, List.set_cons_zero, List.set_cons_succ]
    rfl
  refine wstep (N := some 44) (v := .bool false) (a' := ?_) rfl (by rfl) (fun w' _ => by go_simp) ?_ ?_
  rotate_left
  · simp only [Act.put, List.setIfInBounds_toArray, List.set_cons_zero, List.set_cons_succ]
    rfl
  refine wstep (N := some 45) (v := .bool false) (a' := ?_) rfl (by rfl) (fun w' _ => by go_simp) ?_ ?_
  rotate_left
  · simp only [Act.put, List.setIfInBounds_toArray, List.set_cons_zero, List.set_cons_succ]
    rfl
  refine wstep (N := some 46) (v := .int .i64 ny) (a' := ?_) rfl (by rfl) (fun w' _ => by go_simp) ?_ ?_
  rotate_left
  · simp only [Act.put, List.setIfInBounds_toArray, List.set_cons_zero, List.set_cons_succ]
    rfl
  refine wstep (N := some 47) (v := .bool false) (a' := ?_) rfl (by rfl) (fun w' _ => by go_simp; (try simp only [i64_w]); first | exact P6.out | (have h_ := P6.out; omega) | exact cmp_ P6.out | exact cmpd_ P6.out | exact cmpf_ P6.out) ?_ ?_
  rotate_left
  · simp only [Act.put, List.setIfInBounds_toArray, List.set_cons_zero, List.set_cons_succ]
    rfl
  refine wstep (N := some 48) (v := .bool false) (a' := ?_) rfl (by rfl) (fun w' _ => by go_simp) ?_ ?_
  rotate_left
  · simp only [Act.put, List.setIfInBounds_toArray, List.set_cons_zero, List.set_cons_succ]
    rfl
  refine wstep (N := some 49) (v := .bool false) (a' := ?_) rfl (by rfl) (fun w' _ => by go_simp) ?_ ?_
  rotate_left
  · simp only [Act.put, List.setIfInBounds_toArray, List.set_cons_zero, List.set_cons_succ]
    rfl
  refine wstep (N := some 50) (v := .int .i64 ny) (a' := ?_) rfl (by rfl) (fun w' _ => by go_simp) ?_ ?_
  rotate_left
  · simp only [Act.put, List.setIfInBounds_toArray, List.set_cons_zero, List.set_cons_succ]
    rfl
  refine wstep (N := some 51) (v := .pointer (some ⟨(w.heap.size + 1), 1, none⟩)) (a' := ?_) rfl (by rfl) (fun w' _ => by go_simp) ?_ ?_
  rotate_left
  · simp only [Act.put, List.setIfInBounds_toArray, List.set_cons_zero, List.set_cons_succ]
    rfl
  refine wstep (N := some 52) (v := .int .i64 ts1) (a' := ?_) rfl (by rfl) (fun w' h => load_cell (h.blk0) HC_ts_1.out rfl rfl Try.underlying3 rfl) ?_ ?_
  rotate_left
  · simp only [Act.put, List.setIfInBounds_toArray, List.set_cons_zero, List.set_cons_succ]
    rfl
  refine wstep (N := some 53) (v := .bool false) (a' := ?_) rfl (by rfl) (fun w' _ => by go_simp; (try simp only [i64_w]); first | exact P7.out | (have h_ := P7.out; omega) | exact cmp_ P7.out | exact cmpd_ P7.out | exact cmpf_ P7.out) ?_ ?_
  rotate_left
  · simp only [Act.put, List.setIfInBounds_toArray, List.set_cons_zero, List.set_cons_succ]
    rfl
  refine wstep (N := some 54) (v := .bool false) (a' := ?_) rfl (by rfl) (fun w' _ => by go_simp) ?_ ?_
  rotate_left
  · simp only [Act.put, List.setIfInBounds_toArray, List.set_cons_zero, List.set_cons_succ]
    rfl
  refine wstep (N := some 55) (v := .bool false) (a' := ?_) rfl (by rfl) (fun w' _ => by go_simp) ?_ ?_
  rotate_left
  · simp only [Act.put, List.setIfInBounds_toArray, List.set_cons_zero, List.set_cons_succ]
    rfl
  refine wstep (N := some 56) (v := .int .i64 su) (a' := ?_) rfl (by rfl) (fun w' _ => by go_simp) ?_ ?_
  rotate_left
  · simp only [Act.put, List.setIfInBounds_toArray, List.set_cons_zero, List.set_cons_succ]
    rfl
  refine wstep (N := some 57) (v := .bool false) (a' := ?_) rfl (by rfl) (fun w' _ => by go_simp; (try simp only [i64_w]); first | exact P8.out | (have h_ := P8.out; omega) | exact cmp_ P8.out | exact cmpd_ P8.out | exact cmpf_ P8.out) ?_ ?_
  rotate_left
  · simp only [Act.put, List.setIfInBounds_toArray, List.set_cons_zero, List.set_cons_succ]
    rfl
  refine wstep (N := some 58) (v := .bool false) (a' := ?_) rfl (by rfl) (fun w' _ => by go_simp) ?_ ?_
  rotate_left
  · simp only [Act.put, List.setIfInBounds_toArray, List.set_cons_zero, List.set_cons_succ]
    rfl
  refine wstep (N := some 59) (v := .bool false) (a' := ?_) rfl (by rfl) (fun w' _ => by go_simp) ?_ ?_
  rotate_left
  · simp only [Act.put, List.setIfInBounds_toArray, List.set_cons_zero, List.set_cons_succ]
    rfl
  refine wstep (N := some 60) (v := .int .i64 su) (a' := ?_) rfl (by rfl) (fun w' _ => by go_simp) ?_ ?_
  rotate_left
  · simp only [Act.put, List.setIfInBounds_toArray, List.set_cons_zero, List.set_cons_succ]
    rfl
  refine wstep (N := some 61) (v := .bool false) (a' := ?_) rfl (by rfl) (fun w' _ => by go_simp; (try simp only [i64_w]); first | exact P9.out | (have h_ := P9.out; omega) | exact cmp_ P9.out | exact cmpd_ P9.out | exact cmpf_ P9.out) ?_ ?_
  rotate_left
  · simp only [Act.put, List.setIfInBounds_toArray, List.set_cons_zero, List.set_cons_succ]
    rfl
  refine wstep (N := some 62) (v := .bool false) (a' := ?_) rfl (by rfl) (fun w' _ => by go_simp) ?_ ?_
  rotate_left
  · simp only [Act.put, List.setIfInBounds_toArray, List.set_cons_zero, List.set_cons_succ]
    rfl
  refine wnil ?_
  intro w_h1 h1_
  have h1 := Aside0.mk h1_
  clear h1_
  have c0 := (blk_cell h1.out.blk0 0).trans HC_ts_0.out
  have c1 := (blk_cell h1.out.blk0 1).trans HC_ts_1.out
  have c2 := (blk_cell h1.out.blk0 2).trans HC_ts_2.out
  have Y0o := Y0.out
  have Y1o := Y1.out
  have Y2o := Y2.out
  clear Y0 Y1 Y2
  obtain ⟨z0, hz0⟩ : ∃ z : Int, (if 0 < ts0 then ts0 else 0) = z := ⟨_, rfl⟩
  rw [hz0] at Y0o
  obtain ⟨z1, hz1⟩ : ∃ z : Int, (if z0 < 8589934592 then z0 else 8589934592) = z := ⟨_, rfl⟩
  rw [hz1] at Y0o
  obtain ⟨z2, hz2⟩ : ∃ z : Int, (if 0 < ts2 then ts2 else 0) = z := ⟨_, rfl⟩
  rw [hz2] at Y2o
  obtain ⟨z3, hz3⟩ : ∃ z : Int, (if z2 < 8589934592 then z2 else 8589934592) = z := ⟨_, rfl⟩
  rw [hz3] at Y2o
  have Y0 := Aside0.mk Y0o
  have Y1 := Aside0.mk Y1o
  have Y2 := Aside0.mk Y2o
  clear Y0o Y1o Y2o
  go_upto_region 6 with (fail)
  clear c0 c1 c2 hz0 hz1 hz2 hz3
  simp only [Y0.out, Y1.out, Y2.out]
  obtain ⟨ys, hys⟩ : ∃ ys : Array Value, ys = #[.int .i64 y0, .int .i64 y1, .int .i64 y2] := ⟨_, rfl⟩
  rw [← hys] at ⊢
  have HS_ys : Aside0 (ys.size = 3) := ⟨by rw [hys]; rfl⟩
  have h5 : Aside0 (Cls w ((w_h1.heap.size, ys, 29) :: (w.heap.size + 1, ts, 29) :: (w.heap.size, cs, 25) :: []) (w_h1.alloc (.cells ys 29 (0, 0)))) := ⟨h1.out.put ys 29⟩
  have HYS := Aside0.mk hys
  clear hys
  go_upto_region 6 with (fail)
  refine wregion_p (C := Cls w ((w_h1.heap.size, ys, 29) :: (w.heap.size + 1, ts, 29) :: (w.heap.size, cs, 25) :: [])) (h5.out) ?_
  refine wstep (N := some 86) (v := .agg ts) (a' := ?_) rfl (by rfl) (fun w' h => load_row (h.blk1) rfl rfl Try.underlying29 rfl (by rw [HS_ts.out]; exact info29)) ?_ ?_
  rotate_left
  · simp only [Act.put, List.setIfInBounds_toArray, List.set_cons_zero, List.set_cons_succ]
    rfl
  refine wstep (N := some 87) (v := .int .i64 issued) (a' := ?_) rfl (by rfl) (fun w' _ => by go_simp) ?_ ?_
  rotate_left
  · simp only [Act.put, List.setIfInBounds_toArray, List.set_cons_zero, List.set_cons_succ]
    rfl
  refine wcall (N := some 88) (a' := ?_) (f := 24) Try.func24 (by kernel_rfl) rfl #[.agg ts, .int .i64 issued] (by rfl) rfl rfl (by (try simp only [List.map_toArray, List.map_cons, List.map_nil]); first | done | rfl) (qcall_cls (v := .bool false) H24x.out) ?_ ?_
  rotate_left
  · simp only [Act.put, List.setIfInBounds_toArray, List.set_cons_zero, List.set_cons_succ]
    rfl
  refine wstep (N := some 89) (v := .bool true) (a' := ?_) rfl (by rfl) (fun w' _ => by go_simp) ?_ ?_
  rotate_left
  · simp only [Act.put, List.setIfInBounds_toArray, List.set_cons_zero, List.set_cons_succ]
    rfl
  refine wstep (N := some 90) (v := .bool true) (a' := ?_) rfl (by rfl) (fun w' _ => by go_simp) ?_ ?_
  rotate_left
  · simp only [Act.put, List.setIfInBounds_toArray, List.set_cons_zero, List.set_cons_succ]
    rfl
  refine wskip (N := some 91) (a' := ?_) rfl (by rfl) ?_ ?_
  rotate_left
  · simp only [Act.put, List.setIfInBounds_toArray, List.set_cons_zero, List.set_cons_succ]
    rfl
  refine wskip (N := some 92) (a' := ?_) rfl (by rfl) ?_ ?_
  rotate_left
  · simp only [Act.put, List.setIfInBounds_toArray, List.set_cons_zero, List.set_cons_succ]
    rfl
  refine wskip (N := some 93) (a' := ?_) rfl (by rfl) ?_ ?_
  rotate_left
  · simp only [Act.put, List.setIfInBounds_toArray, List.set_cons_zero, List.set_cons_succ]
    rfl
  refine wskip (N := some 94) (a' := ?_) rfl (by rfl) ?_ ?_
  rotate_left
  · simp only [Act.put, List.setIfInBounds_toArray, List.set_cons_zero, List.set_cons_succ]
    rfl
  refine wstep (N := some 95) (v := .bool true) (a' := ?_) rfl (by rfl) (fun w' _ => by go_simp) ?_ ?_
  rotate_left
  · simp only [Act.put, List.setIfInBounds_toArray, List.set_cons_zero, List.set_cons_succ]
    rfl
  refine wnil ?_
  intro w_h6 h6_
  have h6 := Aside0.mk h6_
  clear h6_
  go_wp2
  go_ret
  exact ⟨rfl, h6.out.below⟩

set_option maxHeartbeats 4000000 in
set_option maxRecDepth 100000 in
theorem mainB (cs : Array Value) (ts : Array Value) (issued : Int) (e : Int) (later : Int) (ay : Int) (ny : Int) (su : Int) (cs0 cs1 cs2 cs3 cs4 cs5 cs6 cs7 cs8 cs9 cs10 cs11 cs12 cs13 cs14 cs15 cs16 cs17 ts0 ts1 ts2 : Int) (y0 y1 y2 : Int) (w : World) (HS_cs : Aside0 (cs.size = 18)) (HS_ts : Aside0 (ts.size = 3)) (HC_ts_0 : Aside0 (ts[0]? = some (.int .i64 ts0))) (HC_ts_2 : Aside0 (ts[2]? = some (.int .i64 ts2))) (HC_ts_1 : Aside0 (ts[1]? = some (.int .i64 ts1)))
    (H22 : Aside0 (Rets Try.prog 22 #[.agg cs] (.bool true)))
    (H23 : Aside0 (Rets Try.prog 23 #[] (.bool true)))
    (H24x : Aside0 (Rets Try.prog 24 #[.agg ts, .int .i64 issued] (.bool true)))
    (H24y : Aside0 (Rets Try.prog 24 #[.agg #[.int .i64 y0, .int .i64 y1, .int .i64 y2], .int .i64 issued] (.bool false)))
    (Y0 : Aside0 (wrap64 ((if (if 0 < ts0 then ts0 else 0) < 8589934592 then if 0 < ts0 then ts0 else 0 else 8589934592) + ay) = y0))
    (Y1 : Aside0 (wrap64 (ts1 - ny) = y1))
    (Y2 : Aside0 (wrap64 ((if (if 0 < ts2 then ts2 else 0) < 8589934592 then if 0 < ts2 then ts2 else 0 else 8589934592) + su) = y2))
    (P0 : Aside0 (¬ (e < 0)))
    (P1 : Aside0 (¬ (e > 1073741824)))
    (P2 : Aside0 (¬ (later < 0)))
    (P3 : Aside0 (¬ (later > 1048576)))
    (P4 : Aside0 (¬ (ay < 0)))
    (P5 : Aside0 (¬ (ay > 1048576)))
    (P6 : Aside0 (¬ (ny < 0)))
    (P7 : Aside0 (¬ (ny > ts1)))
    (P8 : Aside0 (¬ (su < 0)))
    (P9 : Aside0 (¬ (su > 1048576))) :
    Calls Try.prog 5 #[.agg cs, .agg ts, .int .i64 issued, .int .i64 e, .int .i64 later, .int .i64 ay, .int .i64 ny, .int .i64 su] w fun e w' => e = .returned (.bool true) ∧ Below w.heap.size w w' := by
  have HCl : Aside0 (Cls w ((w.heap.size + 1, ts, 29) :: (w.heap.size, cs, 25) :: []) ((w.alloc (.cells cs 25 (0, 0))).alloc (.cells ts 29 (0, 0)))) := ⟨Cls.put2 w _ _ _ _⟩
  go_enter Try.func5, Try.ntmps5
  go_upto_region 1 with (fail)
  refine wregion_p (C := Cls w ((w.heap.size + 1, ts, 29) :: (w.heap.size, cs, 25) :: [])) (HCl.out) ?_
  refine wstep (N := some 18) (v := .agg cs) (a' := ?_) rfl (by rfl) (fun w' h => load_row (h.blk1) rfl rfl Try.underlying25 rfl (by rw [HS_cs.out]; exact info25)) ?_ ?_
  rotate_left
  · simp only [Act.put, List.setIfInBounds_toArray, List.set_cons_zero, List.set_cons_succ]
    rfl
  refine wcall (N := some 19) (a' := ?_) (f := 22) Try.func22 (by kernel_rfl) rfl #[.agg cs] (by rfl) rfl rfl (by (try simp only [List.map_toArray, List.map_cons, List.map_nil]); first | done | rfl) (qcall_cls (v := .bool true) H22.out) ?_ ?_
  rotate_left
  · simp only [Act.put, List.setIfInBounds_toArray, List.set_cons_zero, List.set_cons_succ]
    rfl
  refine wstep (N := some 20) (v := .bool false) (a' := ?_) rfl (by rfl) (fun w' _ => by go_simp) ?_ ?_
  rotate_left
  · simp only [Act.put, List.setIfInBounds_toArray, List.set_cons_zero, List.set_cons_succ]
    rfl
  refine wstep (N := some 21) (v := .bool false) (a' := ?_) rfl (by rfl) (fun w' _ => by go_simp) ?_ ?_
  rotate_left
  · simp only [Act.put, List.setIfInBounds_toArray, List.set_cons_zero, List.set_cons_succ]
    rfl
  refine wstep (N := some 22) (v := .int .i64 e) (a' := ?_) rfl (by rfl) (fun w' _ => by go_simp) ?_ ?_
  rotate_left
  · simp only [Act.put, List.setIfInBounds_toArray, List.set_cons_zero, List.set_cons_succ]
    rfl
  refine wstep (N := some 23) (v := .bool false) (a' := ?_) rfl (by rfl) (fun w' _ => by go_simp; (try simp only [i64_w]); first | exact P0.out | (have h_ := P0.out; omega) | exact cmp_ P0.out | exact cmpd_ P0.out | exact cmpf_ P0.out) ?_ ?_
  rotate_left
  · simp only [Act.put, List.setIfInBounds_toArray, List.set_cons_zero, List.set_cons_succ]
    rfl
  refine wstep (N := some 24) (v := .bool false) (a' := ?_) rfl (by rfl) (fun w' _ => by go_simp) ?_ ?_
  rotate_left
  · simp only [Act.put, List.setIfInBounds_toArray, List.set_cons_zero, List.set_cons_succ]
    rfl
  refine wstep (N := some 25) (v := .bool false) (a' := ?_) rfl (by rfl) (fun w' _ => by go_simp) ?_ ?_
  rotate_left
  · simp only [Act.put, List.setIfInBounds_toArray, List.set_cons_zero, List.set_cons_succ]
    rfl
  refine wstep (N := some 26) (v := .int .i64 e) (a' := ?_) rfl (by rfl) (fun w' _ => by go_simp) ?_ ?_
  rotate_left
  · simp only [Act.put, List.setIfInBounds_toArray, List.set_cons_zero, List.set_cons_succ]
    rfl
  refine wstep (N := some 27) (v := .bool false) (a' := ?_) rfl (by rfl) (fun w' _ => by go_simp; (try simp only [i64_w]); first | exact P1.out | (have h_ := P1.out; omega) | exact cmp_ P1.out | exact cmpd_ P1.out | exact cmpf_ P1.out) ?_ ?_
  rotate_left
  · simp only [Act.put, List.setIfInBounds_toArray, List.set_cons_zero, List.set_cons_succ]
    rfl
  refine wstep (N := some 28) (v := .bool false) (a' := ?_) rfl (by rfl) (fun w' _ => by go_simp) ?_ ?_
  rotate_left
  · simp only [Act.put, List.setIfInBounds_toArray, List.set_cons_zero, List.set_cons_succ]
    rfl
  refine wstep (N := some 29) (v := .bool false) (a' := ?_) rfl (by rfl) (fun w' _ => by go_simp) ?_ ?_
  rotate_left
  · simp only [Act.put, List.setIfInBounds_toArray, List.set_cons_zero, List.set_cons_succ]
    rfl
  refine wstep (N := some 30) (v := .int .i64 later) (a' := ?_) rfl (by rfl) (fun w' _ => by go_simp) ?_ ?_
  rotate_left
  · simp only [Act.put, List.setIfInBounds_toArray, List.set_cons_zero, List.set_cons_succ]
    rfl
  refine wstep (N := some 31) (v := .bool false) (a' := ?_) rfl (by rfl) (fun w' _ => by go_simp; (try simp only [i64_w]); first | exact P2.out | (have h_ := P2.out; omega) | exact cmp_ P2.out | exact cmpd_ P2.out | exact cmpf_ P2.out) ?_ ?_
  rotate_left
  · simp only [Act.put, List.setIfInBounds_toArray, List.set_cons_zero, List.set_cons_succ]
    rfl
  refine wstep (N := some 32) (v := .bool false) (a' := ?_) rfl (by rfl) (fun w' _ => by go_simp) ?_ ?_
  rotate_left
  · simp only [Act.put, List.setIfInBounds_toArray, List.set_cons_zero, List.set_cons_succ]
    rfl
  refine wstep (N := some 33) (v := .bool false) (a' := ?_) rfl (by rfl) (fun w' _ => by go_simp) ?_ ?_
  rotate_left
  · simp only [Act.put, List.setIfInBounds_toArray, List.set_cons_zero, List.set_cons_succ]
    rfl
  refine wstep (N := some 34) (v := .int .i64 later) (a' := ?_) rfl (by rfl) (fun w' _ => by go_simp) ?_ ?_
  rotate_left
  · simp only [Act.put, List.setIfInBounds_toArray, List.set_cons_zero, List.set_cons_succ]
    rfl
  refine wstep (N := some 35) (v := .bool false) (a' := ?_) rfl (by rfl) (fun w' _ => by go_simp; (try simp only [i64_w]); first | exact P3.out | (have h_ := P3.out; omega) | exact cmp_ P3.out | exact cmpd_ P3.out | exact cmpf_ P3.out) ?_ ?_
  rotate_left
  · simp only [Act.put, List.setIfInBounds_toArray, List.set_cons_zero, List.set_cons_succ]
    rfl
  refine wstep (N := some 36) (v := .bool false) (a' := ?_) rfl (by rfl) (fun w' _ => by go_simp) ?_ ?_
  rotate_left
  · simp only [Act.put, List.setIfInBounds_toArray, List.set_cons_zero, List.set_cons_succ]
    rfl
  refine wstep (N := some 37) (v := .bool false) (a' := ?_) rfl (by rfl) (fun w' _ => by go_simp) ?_ ?_
  rotate_left
  · simp only [Act.put, List.setIfInBounds_toArray, List.set_cons_zero, List.set_cons_succ]
    rfl
  refine wstep (N := some 38) (v := .int .i64 ay) (a' := ?_) rfl (by rfl) (fun w' _ => by go_simp) ?_ ?_
  rotate_left
  · simp only [Act.put, List.setIfInBounds_toArray, List.set_cons_zero, List.set_cons_succ]
    rfl
  refine wstep (N := some 39) (v := .bool false) (a' := ?_) rfl (by rfl) (fun w' _ => by go_simp; (try simp only [i64_w]); first | exact P4.out | (have h_ := P4.out; omega) | exact cmp_ P4.out | exact cmpd_ P4.out | exact cmpf_ P4.out) ?_ ?_
  rotate_left
  · simp only [Act.put, List.setIfInBounds_toArray, List.set_cons_zero, List.set_cons_succ]
    rfl
  refine wstep (N := some 40) (v := .bool false) (a' := ?_) rfl (by rfl) (fun w' _ => by go_simp) ?_ ?_
  rotate_left
  · simp only [Act.put, List.setIfInBounds_toArray, List.set_cons_zero, List.set_cons_succ]
    rfl
  refine wstep (N := some 41) (v := .bool false) (a' := ?_) rfl (by rfl) (fun w' _ => by go_simp) ?_ ?_
  rotate_left
  · simp only [Act.put, List.setIfInBounds_toArray, List.set_cons_zero, List.set_cons_succ]
    rfl
  refine wstep (N := some 42) (v := .int .i64 ay) (a' := ?_) rfl (by rfl) (fun w' _ => by go_simp) ?_ ?_
  rotate_left
  · simp only [Act.put, List.setIfInBounds_toArray, List.set_cons_zero, List.set_cons_succ]
    rfl
  refine wstep (N := some 43) (v := .bool false) (a' := ?_) rfl (by rfl) (fun w' _ => by go_simp; (try simp only [i64_w]); first | exact P5.out | (have h_ := P5.out; omega) | exact cmp_ P5.out | exact cmpd_ P5.out | exact cmpf_ P5.out) ?_ ?_
  rotate_left
  · simp only [Act.put, List.setIfInBounds_toArray, List.set_cons_zero, List.set_cons_succ]
    rfl
  refine wstep (N := some 44) (v := .bool false) (a' := ?_) rfl (by rfl) (fun w' _ => by go_simp) ?_ ?_
  rotate_left
  · simp only [Act.put, List.setIfInBounds_toArray, List.set_cons_zero, List.set_cons_succ]
    rfl
  refine wstep (N := some 45) (v := .bool false) (a' := ?_) rfl (by rfl) (fun w' _ => by go_simp) ?_ ?_
  rotate_left
  · simp only [Act.put, List.setIfInBounds_toArray, List.set_cons_zero, List.set_cons_succ]
    rfl
  refine wstep (N := some 46) (v := .int .i64 ny) (a' := ?_) rfl (by rfl) (fun w' _ => by go_simp) ?_ ?_
  rotate_left
  · simp only [Act.put, List.setIfInBounds_toArray, List.set_cons_zero, List.set_cons_succ]
    rfl
  refine wstep (N := some 47) (v := .bool false) (a' := ?_) rfl (by rfl) (fun w' _ => by go_simp; (try simp only [i64_w]); first | exact P6.out | (have h_ := P6.out; omega) | exact cmp_ P6.out | exact cmpd_ P6.out | exact cmpf_ P6.out) ?_ ?_
  rotate_left
  · simp only [Act.put, List.setIfInBounds_toArray, List.set_cons_zero, List.set_cons_succ]
    rfl
  refine wstep (N := some 48) (v := .bool false) (a' := ?_) rfl (by rfl) (fun w' _ => by go_simp) ?_ ?_
  rotate_left
  · simp only [Act.put, List.setIfInBounds_toArray, List.set_cons_zero, List.set_cons_succ]
    rfl
  refine wstep (N := some 49) (v := .bool false) (a' := ?_) rfl (by rfl) (fun w' _ => by go_simp) ?_ ?_
  rotate_left
  · simp only [Act.put, List.setIfInBounds_toArray, List.set_cons_zero, List.set_cons_succ]
    rfl
  refine wstep (N := some 50) (v := .int .i64 ny) (a' := ?_) rfl (by rfl) (fun w' _ => by go_simp) ?_ ?_
  rotate_left
  · simp only [Act.put, List.setIfInBounds_toArray, List.set_cons_zero, List.set_cons_succ]
    rfl
  refine wstep (N := some 51) (v := .pointer (some ⟨(w.heap.size + 1), 1, none⟩)) (a' := ?_) rfl (by rfl) (fun w' _ => by go_simp) ?_ ?_
  rotate_left
  · simp only [Act.put, List.setIfInBounds_toArray, List.set_cons_zero, List.set_cons_succ]
    rfl
  refine wstep (N := some 52) (v := .int .i64 ts1) (a' := ?_) rfl (by rfl) (fun w' h => load_cell (h.blk0) HC_ts_1.out rfl rfl Try.underlying3 rfl) ?_ ?_
  rotate_left
  · simp only [Act.put, List.setIfInBounds_toArray, List.set_cons_zero, List.set_cons_succ]
    rfl
  refine wstep (N := some 53) (v := .bool false) (a' := ?_) rfl (by rfl) (fun w' _ => by go_simp; (try simp only [i64_w]); first | exact P7.out | (have h_ := P7.out; omega) | exact cmp_ P7.out | exact cmpd_ P7.out | exact cmpf_ P7.out) ?_ ?_
  rotate_left
  · simp only [Act.put, List.setIfInBounds_toArray, List.set_cons_zero, List.set_cons_succ]
    rfl
  refine wstep (N := some 54) (v := .bool false) (a' := ?_) rfl (by rfl) (fun w' _ => by go_simp) ?_ ?_
  rotate_left
  · simp only [Act.put, List.setIfInBounds_toArray, List.set_cons_zero, List.set_cons_succ]
    rfl
  refine wstep (N := some 55) (v := .bool false) (a' := ?_) rfl (by rfl) (fun w' _ => by go_simp) ?_ ?_
  rotate_left
  · simp only [Act.put, List.setIfInBounds_toArray, List.set_cons_zero, List.set_cons_succ]
    rfl
  refine wstep (N := some 56) (v := .int .i64 su) (a' := ?_) rfl (by rfl) (fun w' _ => by go_simp) ?_ ?_
  rotate_left
  · simp only [Act.put, List.setIfInBounds_toArray, List.set_cons_zero, List.set_cons_succ]
    rfl
  refine wstep (N := some 57) (v := .bool false) (a' := ?_) rfl (by rfl) (fun w' _ => by go_simp; (try simp only [i64_w]); first | exact P8.out | (have h_ := P8.out; omega) | exact cmp_ P8.out | exact cmpd_ P8.out | exact cmpf_ P8.out) ?_ ?_
  rotate_left
  · simp only [Act.put, List.setIfInBounds_toArray, List.set_cons_zero, List.set_cons_succ]
    rfl
  refine wstep (N := some 58) (v := .bool false) (a' := ?_) rfl (by rfl) (fun w' _ => by go_simp) ?_ ?_
  rotate_left
  · simp only [Act.put, List.setIfInBounds_toArray, List.set_cons_zero, List.set_cons_succ]
    rfl
  refine wstep (N := some 59) (v := .bool false) (a' := ?_) rfl (by rfl) (fun w' _ => by go_simp) ?_ ?_
  rotate_left
  · simp only [Act.put, List.setIfInBounds_toArray, List.set_cons_zero, List.set_cons_succ]
    rfl
  refine wstep (N := some 60) (v := .int .i64 su) (a' := ?_) rfl (by rfl) (fun w' _ => by go_simp) ?_ ?_
  rotate_left
  · simp only [Act.put, List.setIfInBounds_toArray, List.set_cons_zero, List.set_cons_succ]
    rfl
  refine wstep (N := some 61) (v := .bool false) (a' := ?_) rfl (by rfl) (fun w' _ => by go_simp; (try simp only [i64_w]); first | exact P9.out | (have h_ := P9.out; omega) | exact cmp_ P9.out | exact cmpd_ P9.out | exact cmpf_ P9.out) ?_ ?_
  rotate_left
  · simp only [Act.put, List.setIfInBounds_toArray, List.set_cons_zero, List.set_cons_succ]
    rfl
  refine wstep (N := some 62) (v := .bool false) (a' := ?_) rfl (by rfl) (fun w' _ => by go_simp) ?_ ?_
  rotate_left
  · simp only [Act.put, List.setIfInBounds_toArray, List.set_cons_zero, List.set_cons_succ]
    rfl
  refine wnil ?_
  intro w_h1 h1_
  have h1 := Aside0.mk h1_
  clear h1_
  have c0 := (blk_cell h1.out.blk0 0).trans HC_ts_0.out
  have c1 := (blk_cell h1.out.blk0 1).trans HC_ts_1.out
  have c2 := (blk_cell h1.out.blk0 2).trans HC_ts_2.out
  have Y0o := Y0.out
  have Y1o := Y1.out
  have Y2o := Y2.out
  clear Y0 Y1 Y2
  obtain ⟨z0, hz0⟩ : ∃ z : Int, (if 0 < ts0 then ts0 else 0) = z := ⟨_, rfl⟩
  rw [hz0] at Y0o
  obtain ⟨z1, hz1⟩ : ∃ z : Int, (if z0 < 8589934592 then z0 else 8589934592) = z := ⟨_, rfl⟩
  rw [hz1] at Y0o
  obtain ⟨z2, hz2⟩ : ∃ z : Int, (if 0 < ts2 then ts2 else 0) = z := ⟨_, rfl⟩
  rw [hz2] at Y2o
  obtain ⟨z3, hz3⟩ : ∃ z : Int, (if z2 < 8589934592 then z2 else 8589934592) = z := ⟨_, rfl⟩
  rw [hz3] at Y2o
  have Y0 := Aside0.mk Y0o
  have Y1 := Aside0.mk Y1o
  have Y2 := Aside0.mk Y2o
  clear Y0o Y1o Y2o
  go_upto_region 6 with (fail)
  clear c0 c1 c2 hz0 hz1 hz2 hz3
  simp only [Y0.out, Y1.out, Y2.out]
  obtain ⟨ys, hys⟩ : ∃ ys : Array Value, ys = #[.int .i64 y0, .int .i64 y1, .int .i64 y2] := ⟨_, rfl⟩
  rw [← hys] at H24y ⊢
  have HS_ys : Aside0 (ys.size = 3) := ⟨by rw [hys]; rfl⟩
  have h5 : Aside0 (Cls w ((w_h1.heap.size, ys, 29) :: (w.heap.size + 1, ts, 29) :: (w.heap.size, cs, 25) :: []) (w_h1.alloc (.cells ys 29 (0, 0)))) := ⟨h1.out.put ys 29⟩
  have HYS := Aside0.mk hys
  clear hys
  go_upto_region 6 with (fail)
  refine wregion_p (C := Cls w ((w_h1.heap.size, ys, 29) :: (w.heap.size + 1, ts, 29) :: (w.heap.size, cs, 25) :: [])) (h5.out) ?_
  refine wstep (N := some 86) (v := .agg ts) (a' := ?_) rfl (by rfl) (fun w' h => load_row (h.blk1) rfl rfl Try.underlying29 rfl (by rw [HS_ts.out]; exact info29)) ?_ ?_
  rotate_left
  · simp only [Act.put, List.setIfInBounds_toArray, List.set_cons_zero, List.set_cons_succ]
    rfl
  refine wstep (N := some 87) (v := .int .i64 issued) (a' := ?_) rfl (by rfl) (fun w' _ => by go_simp) ?_ ?_
  rotate_left
  · simp only [Act.put, List.setIfInBounds_toArray, List.set_cons_zero, List.set_cons_succ]
    rfl
  refine wcall (N := some 88) (a' := ?_) (f := 24) Try.func24 (by kernel_rfl) rfl #[.agg ts, .int .i64 issued] (by rfl) rfl rfl (by (try simp only [List.map_toArray, List.map_cons, List.map_nil]); first | done | rfl) (qcall_cls (v := .bool true) H24x.out) ?_ ?_
  rotate_left
  · simp only [Act.put, List.setIfInBounds_toArray, List.set_cons_zero, List.set_cons_succ]
    rfl
  refine wstep (N := some 89) (v := .bool false) (a' := ?_) rfl (by rfl) (fun w' _ => by go_simp) ?_ ?_
  rotate_left
  · simp only [Act.put, List.setIfInBounds_toArray, List.set_cons_zero, List.set_cons_succ]
    rfl
  refine wstep (N := some 90) (v := .bool false) (a' := ?_) rfl (by rfl) (fun w' _ => by go_simp) ?_ ?_
  rotate_left
  · simp only [Act.put, List.setIfInBounds_toArray, List.set_cons_zero, List.set_cons_succ]
    rfl
  refine wstep (N := some 91) (v := .agg ys) (a' := ?_) rfl (by rfl) (fun w' h => load_row (h.blk0) rfl rfl Try.underlying29 rfl (by rw [HS_ys.out]; exact info29)) ?_ ?_
  rotate_left
  · simp only [Act.put, List.setIfInBounds_toArray, List.set_cons_zero, List.set_cons_succ]
    rfl
  refine wstep (N := some 92) (v := .int .i64 issued) (a' := ?_) rfl (by rfl) (fun w' _ => by go_simp) ?_ ?_
  rotate_left
  · simp only [Act.put, List.setIfInBounds_toArray, List.set_cons_zero, List.set_cons_succ]
    rfl
  refine wcall (N := some 93) (a' := ?_) (f := 24) Try.func24 (by kernel_rfl) rfl #[.agg ys, .int .i64 issued] (by rfl) rfl rfl (by (try simp only [List.map_toArray, List.map_cons, List.map_nil]); first | done | rfl) (qcall_cls (v := .bool false) H24y.out) ?_ ?_
  rotate_left
  · simp only [Act.put, List.setIfInBounds_toArray, List.set_cons_zero, List.set_cons_succ]
    rfl
  refine wstep (N := some 94) (v := .bool true) (a' := ?_) rfl (by rfl) (fun w' _ => by go_simp) ?_ ?_
  rotate_left
  · simp only [Act.put, List.setIfInBounds_toArray, List.set_cons_zero, List.set_cons_succ]
    rfl
  refine wstep (N := some 95) (v := .bool true) (a' := ?_) rfl (by rfl) (fun w' _ => by go_simp) ?_ ?_
  rotate_left
  · simp only [Act.put, List.setIfInBounds_toArray, List.set_cons_zero, List.set_cons_succ]
    rfl
  refine wnil ?_
  intro w_h6 h6_
  have h6 := Aside0.mk h6_
  clear h6_
  go_wp2
  go_ret
  exact ⟨rfl, h6.out.below⟩

set_option maxHeartbeats 4000000 in
set_option maxRecDepth 100000 in
theorem mainC (cs : Array Value) (ts : Array Value) (issued : Int) (e : Int) (later : Int) (ay : Int) (ny : Int) (su : Int) (cs0 cs1 cs2 cs3 cs4 cs5 cs6 cs7 cs8 cs9 cs10 cs11 cs12 cs13 cs14 cs15 cs16 cs17 ts0 ts1 ts2 : Int) (y0 y1 y2 : Int) (w : World) (HS_cs : Aside0 (cs.size = 18)) (HS_ts : Aside0 (ts.size = 3)) (HC_ts_0 : Aside0 (ts[0]? = some (.int .i64 ts0))) (HC_ts_2 : Aside0 (ts[2]? = some (.int .i64 ts2))) (HC_ts_1 : Aside0 (ts[1]? = some (.int .i64 ts1)))
    (H22 : Aside0 (Rets Try.prog 22 #[.agg cs] (.bool true)))
    (H23 : Aside0 (Rets Try.prog 23 #[] (.bool true)))
    (H24x : Aside0 (Rets Try.prog 24 #[.agg ts, .int .i64 issued] (.bool true)))
    (H24y : Aside0 (Rets Try.prog 24 #[.agg #[.int .i64 y0, .int .i64 y1, .int .i64 y2], .int .i64 issued] (.bool true)))
    (H27x : Aside0 (Rets Try.prog 27 #[.agg cs, .agg ts, .int .i64 issued, .int .i64 e] (.bool false)))
    (Y0 : Aside0 (wrap64 ((if (if 0 < ts0 then ts0 else 0) < 8589934592 then if 0 < ts0 then ts0 else 0 else 8589934592) + ay) = y0))
    (Y1 : Aside0 (wrap64 (ts1 - ny) = y1))
    (Y2 : Aside0 (wrap64 ((if (if 0 < ts2 then ts2 else 0) < 8589934592 then if 0 < ts2 then ts2 else 0 else 8589934592) + su) = y2))
    (P0 : Aside0 (¬ (e < 0)))
    (P1 : Aside0 (¬ (e > 1073741824)))
    (P2 : Aside0 (¬ (later < 0)))
    (P3 : Aside0 (¬ (later > 1048576)))
    (P4 : Aside0 (¬ (ay < 0)))
    (P5 : Aside0 (¬ (ay > 1048576)))
    (P6 : Aside0 (¬ (ny < 0)))
    (P7 : Aside0 (¬ (ny > ts1)))
    (P8 : Aside0 (¬ (su < 0)))
    (P9 : Aside0 (¬ (su > 1048576))) :
    Calls Try.prog 5 #[.agg cs, .agg ts, .int .i64 issued, .int .i64 e, .int .i64 later, .int .i64 ay, .int .i64 ny, .int .i64 su] w fun e w' => e = .returned (.bool true) ∧ Below w.heap.size w w' := by
  have HCl : Aside0 (Cls w ((w.heap.size + 1, ts, 29) :: (w.heap.size, cs, 25) :: []) ((w.alloc (.cells cs 25 (0, 0))).alloc (.cells ts 29 (0, 0)))) := ⟨Cls.put2 w _ _ _ _⟩
  go_enter Try.func5, Try.ntmps5
  go_upto_region 1 with (fail)
  refine wregion_p (C := Cls w ((w.heap.size + 1, ts, 29) :: (w.heap.size, cs, 25) :: [])) (HCl.out) ?_
  refine wstep (N := some 18) (v := .agg cs) (a' := ?_) rfl (by rfl) (fun w' h => load_row (h.blk1) rfl rfl Try.underlying25 rfl (by rw [HS_cs.out]; exact info25)) ?_ ?_
  rotate_left
  · simp only [Act.put, List.setIfInBounds_toArray, List.set_cons_zero, List.set_cons_succ]
    rfl
  refine wcall (N := some 19) (a' := ?_) (f := 22) Try.func22 (by kernel_rfl) rfl #[.agg cs] (by rfl) rfl rfl (by (try simp only [List.map_toArray, List.map_cons, List.map_nil]); first | done | rfl) (qcall_cls (v := .bool true) H22.out) ?_ ?_
  rotate_left
  · simp only [Act.put, List.setIfInBounds_toArray, List.set_cons_zero, List.set_cons_succ]
    rfl
  refine wstep (N := some 20) (v := .bool false) (a' := ?_) rfl (by rfl) (fun w' _ => by go_simp) ?_ ?_
  rotate_left
  · simp only [Act.put, List.setIfInBounds_toArray, List.set_cons_zero, List.set_cons_succ]
    rfl
  refine wstep (N := some 21) (v := .bool false) (a' := ?_) rfl (by rfl) (fun w' _ => by go_simp) ?_ ?_
  rotate_left
  · simp only [Act.put, List.setIfInBounds_toArray, List.set_cons_zero, List.set_cons_succ]
    rfl
  refine wstep (N := some 22) (v := .int .i64 e) (a' := ?_) rfl (by rfl) (fun w' _ => by go_simp) ?_ ?_
  rotate_left
  · simp only [Act.put, List.setIfInBounds_toArray, List.set_cons_zero, List.set_cons_succ]
    rfl
  refine wstep (N := some 23) (v := .bool false) (a' := ?_) rfl (by rfl) (fun w' _ => by go_simp; (try simp only [i64_w]); first | exact P0.out | (have h_ := P0.out; omega) | exact cmp_ P0.out | exact cmpd_ P0.out | exact cmpf_ P0.out) ?_ ?_
  rotate_left
  · simp only [Act.put, List.setIfInBounds_toArray, List.set_cons_zero, List.set_cons_succ]
    rfl
  refine wstep (N := some 24) (v := .bool false) (a' := ?_) rfl (by rfl) (fun w' _ => by go_simp) ?_ ?_
  rotate_left
  · simp only [Act.put, List.setIfInBounds_toArray, List.set_cons_zero, List.set_cons_succ]
    rfl
  refine wstep (N := some 25) (v := .bool false) (a' := ?_) rfl (by rfl) (fun w' _ => by go_simp) ?_ ?_
  rotate_left
  · simp only [Act.put, List.setIfInBounds_toArray, List.set_cons_zero, List.set_cons_succ]
    rfl
  refine wstep (N := some 26) (v := .int .i64 e) (a' := ?_) rfl (by rfl) (fun w' _ => by go_simp) ?_ ?_
  rotate_left
  · simp only [Act.put, List.setIfInBounds_toArray, List.set_cons_zero, List.set_cons_succ]
    rfl
  refine wstep (N := some 27) (v := .bool false) (a' := ?_) rfl (by rfl) (fun w' _ => by go_simp; (try simp only [i64_w]); first | exact P1.out | (have h_ := P1.out; omega) | exact cmp_ P1.out | exact cmpd_ P1.out | exact cmpf_ P1.out) ?_ ?_
  rotate_left
  · simp only [Act.put, List.setIfInBounds_toArray, List.set_cons_zero, List.set_cons_succ]
    rfl
  refine wstep (N := some 28) (v := .bool false) (a' := ?_) rfl (by rfl) (fun w' _ => by go_simp) ?_ ?_
  rotate_left
  · simp only [Act.put, List.setIfInBounds_toArray, List.set_cons_zero, List.set_cons_succ]
    rfl
  refine wstep (N := some 29) (v := .bool false) (a' := ?_) rfl (by rfl) (fun w' _ => by go_simp) ?_ ?_
  rotate_left
  · simp only [Act.put, List.setIfInBounds_toArray, List.set_cons_zero, List.set_cons_succ]
    rfl
  refine wstep (N := some 30) (v := .int .i64 later) (a' := ?_) rfl (by rfl) (fun w' _ => by go_simp) ?_ ?_
  rotate_left
  · simp only [Act.put, List.setIfInBounds_toArray, List.set_cons_zero, List.set_cons_succ]
    rfl
  refine wstep (N := some 31) (v := .bool false) (a' := ?_) rfl (by rfl) (fun w' _ => by go_simp; (try simp only [i64_w]); first | exact P2.out | (have h_ := P2.out; omega) | exact cmp_ P2.out | exact cmpd_ P2.out | exact cmpf_ P2.out) ?_ ?_
  rotate_left
  · simp only [Act.put, List.setIfInBounds_toArray, List.set_cons_zero, List.set_cons_succ]
    rfl
  refine wstep (N := some 32) (v := .bool false) (a' := ?_) rfl (by rfl) (fun w' _ => by go_simp) ?_ ?_
  rotate_left
  · simp only [Act.put, List.setIfInBounds_toArray, List.set_cons_zero, List.set_cons_succ]
    rfl
  refine wstep (N := some 33) (v := .bool false) (a' := ?_) rfl (by rfl) (fun w' _ => by go_simp) ?_ ?_
  rotate_left
  · simp only [Act.put, List.setIfInBounds_toArray, List.set_cons_zero, List.set_cons_succ]
    rfl
  refine wstep (N := some 34) (v := .int .i64 later) (a' := ?_) rfl (by rfl) (fun w' _ => by go_simp) ?_ ?_
  rotate_left
  · simp only [Act.put, List.setIfInBounds_toArray, List.set_cons_zero, List.set_cons_succ]
    rfl
  refine wstep (N := some 35) (v := .bool false) (a' := ?_) rfl (by rfl) (fun w' _ => by go_simp; (try simp only [i64_w]); first | exact P3.out | (have h_ := P3.out; omega) | exact cmp_ P3.out | exact cmpd_ P3.out | exact cmpf_ P3.out) ?_ ?_
  rotate_left
  · simp only [Act.put, List.setIfInBounds_toArray, List.set_cons_zero, List.set_cons_succ]
    rfl
  refine wstep (N := some 36) (v := .bool false) (a' := ?_) rfl (by rfl) (fun w' _ => by go_simp) ?_ ?_
  rotate_left
  · simp only [Act.put, List.setIfInBounds_toArray, List.set_cons_zero, List.set_cons_succ]
    rfl
  refine wstep (N := some 37) (v := .bool false) (a' := ?_) rfl (by rfl) (fun w' _ => by go_simp) ?_ ?_
  rotate_left
  · simp only [Act.put, List.setIfInBounds_toArray, List.set_cons_zero, List.set_cons_succ]
    rfl
  refine wstep (N := some 38) (v := .int .i64 ay) (a' := ?_) rfl (by rfl) (fun w' _ => by go_simp) ?_ ?_
  rotate_left
  · simp only [Act.put, List.setIfInBounds_toArray, List.set_cons_zero, List.set_cons_succ]
    rfl
  refine wstep (N := some 39) (v := .bool false) (a' := ?_) rfl (by rfl) (fun w' _ => by go_simp; (try simp only [i64_w]); first | exact P4.out | (have h_ := P4.out; omega) | exact cmp_ P4.out | exact cmpd_ P4.out | exact cmpf_ P4.out) ?_ ?_
  rotate_left
  · simp only [Act.put, List.setIfInBounds_toArray, List.set_cons_zero, List.set_cons_succ]
    rfl
  refine wstep (N := some 40) (v := .bool false) (a' := ?_) rfl (by rfl) (fun w' _ => by go_simp) ?_ ?_
  rotate_left
  · simp only [Act.put, List.setIfInBounds_toArray, List.set_cons_zero, List.set_cons_succ]
    rfl
  refine wstep (N := some 41) (v := .bool false) (a' := ?_) rfl (by rfl) (fun w' _ => by go_simp) ?_ ?_
  rotate_left
  · simp only [Act.put, List.setIfInBounds_toArray, List.set_cons_zero, List.set_cons_succ]
    rfl
  refine wstep (N := some 42) (v := .int .i64 ay) (a' := ?_) rfl (by rfl) (fun w' _ => by go_simp) ?_ ?_
  rotate_left
  · simp only [Act.put, List.setIfInBounds_toArray, List.set_cons_zero, List.set_cons_succ]
    rfl
  refine wstep (N := some 43) (v := .bool false) (a' := ?_) rfl (by rfl) (fun w' _ => by go_simp; (try simp only [i64_w]); first | exact P5.out | (have h_ := P5.out; omega) | exact cmp_ P5.out | exact cmpd_ P5.out | exact cmpf_ P5.out) ?_ ?_
  rotate_left
  · simp only [Act.put, List.setIfInBounds_toArray, List.set_cons_zero, List.set_cons_succ]
    rfl
  refine wstep (N := some 44) (v := .bool false) (a' := ?_) rfl (by rfl) (fun w' _ => by go_simp) ?_ ?_
  rotate_left
  · simp only [Act.put, List.setIfInBounds_toArray, List.set_cons_zero, List.set_cons_succ]
    rfl
  refine wstep (N := some 45) (v := .bool false) (a' := ?_) rfl (by rfl) (fun w' _ => by go_simp) ?_ ?_
  rotate_left
  · simp only [Act.put, List.setIfInBounds_toArray, List.set_cons_zero, List.set_cons_succ]
    rfl
  refine wstep (N := some 46) (v := .int .i64 ny) (a' := ?_) rfl (by rfl) (fun w' _ => by go_simp) ?_ ?_
  rotate_left
  · simp only [Act.put, List.setIfInBounds_toArray, List.set_cons_zero, List.set_cons_succ]
    rfl
  refine wstep (N := some 47) (v := .bool false) (a' := ?_) rfl (by rfl) (fun w' _ => by go_simp; (try simp only [i64_w]); first | exact P6.out | (have h_ := P6.out; omega) | exact cmp_ P6.out | exact cmpd_ P6.out | exact cmpf_ P6.out) ?_ ?_
  rotate_left
  · simp only [Act.put, List.setIfInBounds_toArray, List.set_cons_zero, List.set_cons_succ]
    rfl
  refine wstep (N := some 48) (v := .bool false) (a' := ?_) rfl (by rfl) (fun w' _ => by go_simp) ?_ ?_
  rotate_left
  · simp only [Act.put, List.setIfInBounds_toArray, List.set_cons_zero, List.set_cons_succ]
    rfl
  refine wstep (N := some 49) (v := .bool false) (a' := ?_) rfl (by rfl) (fun w' _ => by go_simp) ?_ ?_
  rotate_left
  · simp only [Act.put, List.setIfInBounds_toArray, List.set_cons_zero, List.set_cons_succ]
    rfl
  refine wstep (N := some 50) (v := .int .i64 ny) (a' := ?_) rfl (by rfl) (fun w' _ => by go_simp) ?_ ?_
  rotate_left
  · simp only [Act.put, List.setIfInBounds_toArray, List.set_cons_zero, List.set_cons_succ]
    rfl
  refine wstep (N := some 51) (v := .pointer (some ⟨(w.heap.size + 1), 1, none⟩)) (a' := ?_) rfl (by rfl) (fun w' _ => by go_simp) ?_ ?_
  rotate_left
  · simp only [Act.put, List.setIfInBounds_toArray, List.set_cons_zero, List.set_cons_succ]
    rfl
  refine wstep (N := some 52) (v := .int .i64 ts1) (a' := ?_) rfl (by rfl) (fun w' h => load_cell (h.blk0) HC_ts_1.out rfl rfl Try.underlying3 rfl) ?_ ?_
  rotate_left
  · simp only [Act.put, List.setIfInBounds_toArray, List.set_cons_zero, List.set_cons_succ]
    rfl
  refine wstep (N := some 53) (v := .bool false) (a' := ?_) rfl (by rfl) (fun w' _ => by go_simp; (try simp only [i64_w]); first | exact P7.out | (have h_ := P7.out; omega) | exact cmp_ P7.out | exact cmpd_ P7.out | exact cmpf_ P7.out) ?_ ?_
  rotate_left
  · simp only [Act.put, List.setIfInBounds_toArray, List.set_cons_zero, List.set_cons_succ]
    rfl
  refine wstep (N := some 54) (v := .bool false) (a' := ?_) rfl (by rfl) (fun w' _ => by go_simp) ?_ ?_
  rotate_left
  · simp only [Act.put, List.setIfInBounds_toArray, List.set_cons_zero, List.set_cons_succ]
    rfl
  refine wstep (N := some 55) (v := .bool false) (a' := ?_) rfl (by rfl) (fun w' _ => by go_simp) ?_ ?_
  rotate_left
  · simp only [Act.put, List.setIfInBounds_toArray, List.set_cons_zero, List.set_cons_succ]
    rfl
  refine wstep (N := some 56) (v := .int .i64 su) (a' := ?_) rfl (by rfl) (fun w' _ => by go_simp) ?_ ?_
  rotate_left
  · simp only [Act.put, List.setIfInBounds_toArray, List.set_cons_zero, List.set_cons_succ]
    rfl
  refine wstep (N := some 57) (v := .bool false) (a' := ?_) rfl (by rfl) (fun w' _ => by go_simp; (try simp only [i64_w]); first | exact P8.out | (have h_ := P8.out; omega) | exact cmp_ P8.out | exact cmpd_ P8.out | exact cmpf_ P8.out) ?_ ?_
  rotate_left
  · simp only [Act.put, List.setIfInBounds_toArray, List.set_cons_zero, List.set_cons_succ]
    rfl
  refine wstep (N := some 58) (v := .bool false) (a' := ?_) rfl (by rfl) (fun w' _ => by go_simp) ?_ ?_
  rotate_left
  · simp only [Act.put, List.setIfInBounds_toArray, List.set_cons_zero, List.set_cons_succ]
    rfl
  refine wstep (N := some 59) (v := .bool false) (a' := ?_) rfl (by rfl) (fun w' _ => by go_simp) ?_ ?_
  rotate_left
  · simp only [Act.put, List.setIfInBounds_toArray, List.set_cons_zero, List.set_cons_succ]
    rfl
  refine wstep (N := some 60) (v := .int .i64 su) (a' := ?_) rfl (by rfl) (fun w' _ => by go_simp) ?_ ?_
  rotate_left
  · simp only [Act.put, List.setIfInBounds_toArray, List.set_cons_zero, List.set_cons_succ]
    rfl
  refine wstep (N := some 61) (v := .bool false) (a' := ?_) rfl (by rfl) (fun w' _ => by go_simp; (try simp only [i64_w]); first | exact P9.out | (have h_ := P9.out; omega) | exact cmp_ P9.out | exact cmpd_ P9.out | exact cmpf_ P9.out) ?_ ?_
  rotate_left
  · simp only [Act.put, List.setIfInBounds_toArray, List.set_cons_zero, List.set_cons_succ]
    rfl
  refine wstep (N := some 62) (v := .bool false) (a' := ?_) rfl (by rfl) (fun w' _ => by go_simp) ?_ ?_
  rotate_left
  · simp only [Act.put, List.setIfInBounds_toArray, List.set_cons_zero, List.set_cons_succ]
    rfl
  refine wnil ?_
  intro w_h1 h1_
  have h1 := Aside0.mk h1_
  clear h1_
  have c0 := (blk_cell h1.out.blk0 0).trans HC_ts_0.out
  have c1 := (blk_cell h1.out.blk0 1).trans HC_ts_1.out
  have c2 := (blk_cell h1.out.blk0 2).trans HC_ts_2.out
  have Y0o := Y0.out
  have Y1o := Y1.out
  have Y2o := Y2.out
  clear Y0 Y1 Y2
  obtain ⟨z0, hz0⟩ : ∃ z : Int, (if 0 < ts0 then ts0 else 0) = z := ⟨_, rfl⟩
  rw [hz0] at Y0o
  obtain ⟨z1, hz1⟩ : ∃ z : Int, (if z0 < 8589934592 then z0 else 8589934592) = z := ⟨_, rfl⟩
  rw [hz1] at Y0o
  obtain ⟨z2, hz2⟩ : ∃ z : Int, (if 0 < ts2 then ts2 else 0) = z := ⟨_, rfl⟩
  rw [hz2] at Y2o
  obtain ⟨z3, hz3⟩ : ∃ z : Int, (if z2 < 8589934592 then z2 else 8589934592) = z := ⟨_, rfl⟩
  rw [hz3] at Y2o
  have Y0 := Aside0.mk Y0o
  have Y1 := Aside0.mk Y1o
  have Y2 := Aside0.mk Y2o
  clear Y0o Y1o Y2o
  go_upto_region 6 with (fail)
  clear c0 c1 c2 hz0 hz1 hz2 hz3
  simp only [Y0.out, Y1.out, Y2.out]
  obtain ⟨ys, hys⟩ : ∃ ys : Array Value, ys = #[.int .i64 y0, .int .i64 y1, .int .i64 y2] := ⟨_, rfl⟩
  rw [← hys] at H24y ⊢
  have HS_ys : Aside0 (ys.size = 3) := ⟨by rw [hys]; rfl⟩
  have h5 : Aside0 (Cls w ((w_h1.heap.size, ys, 29) :: (w.heap.size + 1, ts, 29) :: (w.heap.size, cs, 25) :: []) (w_h1.alloc (.cells ys 29 (0, 0)))) := ⟨h1.out.put ys 29⟩
  have HYS := Aside0.mk hys
  clear hys
  go_upto_region 6 with (fail)
  refine wregion_p (C := Cls w ((w_h1.heap.size, ys, 29) :: (w.heap.size + 1, ts, 29) :: (w.heap.size, cs, 25) :: [])) (h5.out) ?_
  refine wstep (N := some 86) (v := .agg ts) (a' := ?_) rfl (by rfl) (fun w' h => load_row (h.blk1) rfl rfl Try.underlying29 rfl (by rw [HS_ts.out]; exact info29)) ?_ ?_
  rotate_left
  · simp only [Act.put, List.setIfInBounds_toArray, List.set_cons_zero, List.set_cons_succ]
    rfl
  refine wstep (N := some 87) (v := .int .i64 issued) (a' := ?_) rfl (by rfl) (fun w' _ => by go_simp) ?_ ?_
  rotate_left
  · simp only [Act.put, List.setIfInBounds_toArray, List.set_cons_zero, List.set_cons_succ]
    rfl
  refine wcall (N := some 88) (a' := ?_) (f := 24) Try.func24 (by kernel_rfl) rfl #[.agg ts, .int .i64 issued] (by rfl) rfl rfl (by (try simp only [List.map_toArray, List.map_cons, List.map_nil]); first | done | rfl) (qcall_cls (v := .bool true) H24x.out) ?_ ?_
  rotate_left
  · simp only [Act.put, List.setIfInBounds_toArray, List.set_cons_zero, List.set_cons_succ]
    rfl
  refine wstep (N := some 89) (v := .bool false) (a' := ?_) rfl (by rfl) (fun w' _ => by go_simp) ?_ ?_
  rotate_left
  · simp only [Act.put, List.setIfInBounds_toArray, List.set_cons_zero, List.set_cons_succ]
    rfl
  refine wstep (N := some 90) (v := .bool false) (a' := ?_) rfl (by rfl) (fun w' _ => by go_simp) ?_ ?_
  rotate_left
  · simp only [Act.put, List.setIfInBounds_toArray, List.set_cons_zero, List.set_cons_succ]
    rfl
  refine wstep (N := some 91) (v := .agg ys) (a' := ?_) rfl (by rfl) (fun w' h => load_row (h.blk0) rfl rfl Try.underlying29 rfl (by rw [HS_ys.out]; exact info29)) ?_ ?_
  rotate_left
  · simp only [Act.put, List.setIfInBounds_toArray, List.set_cons_zero, List.set_cons_succ]
    rfl
  refine wstep (N := some 92) (v := .int .i64 issued) (a' := ?_) rfl (by rfl) (fun w' _ => by go_simp) ?_ ?_
  rotate_left
  · simp only [Act.put, List.setIfInBounds_toArray, List.set_cons_zero, List.set_cons_succ]
    rfl
  refine wcall (N := some 93) (a' := ?_) (f := 24) Try.func24 (by kernel_rfl) rfl #[.agg ys, .int .i64 issued] (by rfl) rfl rfl (by (try simp only [List.map_toArray, List.map_cons, List.map_nil]); first | done | rfl) (qcall_cls (v := .bool true) H24y.out) ?_ ?_
  rotate_left
  · simp only [Act.put, List.setIfInBounds_toArray, List.set_cons_zero, List.set_cons_succ]
    rfl
  refine wstep (N := some 94) (v := .bool false) (a' := ?_) rfl (by rfl) (fun w' _ => by go_simp) ?_ ?_
  rotate_left
  · simp only [Act.put, List.setIfInBounds_toArray, List.set_cons_zero, List.set_cons_succ]
    rfl
  refine wstep (N := some 95) (v := .bool false) (a' := ?_) rfl (by rfl) (fun w' _ => by go_simp) ?_ ?_
  rotate_left
  · simp only [Act.put, List.setIfInBounds_toArray, List.set_cons_zero, List.set_cons_succ]
    rfl
  refine wnil ?_
  intro w_h6 h6_
  have h6 := Aside0.mk h6_
  clear h6_
  go_upto_region 8 with (fail)
  refine wregion_p (C := Cls w ((w_h1.heap.size, ys, 29) :: (w.heap.size + 1, ts, 29) :: (w.heap.size, cs, 25) :: [])) (h6.out) ?_
  refine wstep (N := some 96) (v := .agg cs) (a' := ?_) rfl (by rfl) (fun w' h => load_row (h.blk2) rfl rfl Try.underlying25 rfl (by rw [HS_cs.out]; exact info25)) ?_ ?_
  rotate_left
  · simp only [Act.put, List.setIfInBounds_toArray, List.set_cons_zero, List.set_cons_succ]
    rfl
  refine wstep (N := some 97) (v := .agg ts) (a' := ?_) rfl (by rfl) (fun w' h => load_row (h.blk1) rfl rfl Try.underlying29 rfl (by rw [HS_ts.out]; exact info29)) ?_ ?_
  rotate_left
  · simp only [Act.put, List.setIfInBounds_toArray, List.set_cons_zero, List.set_cons_succ]
    rfl
  refine wstep (N := some 98) (v := .int .i64 issued) (a' := ?_) rfl (by rfl) (fun w' _ => by go_simp) ?_ ?_
  rotate_left
  · simp only [Act.put, List.setIfInBounds_toArray, List.set_cons_zero, List.set_cons_succ]
    rfl
  refine wstep (N := some 99) (v := .int .i64 e) (a' := ?_) rfl (by rfl) (fun w' _ => by go_simp) ?_ ?_
  rotate_left
  · simp only [Act.put, List.setIfInBounds_toArray, List.set_cons_zero, List.set_cons_succ]
    rfl
  refine wcall (N := some 100) (a' := ?_) (f := 27) Try.func27 (by kernel_rfl) rfl #[.agg cs, .agg ts, .int .i64 issued, .int .i64 e] (by rfl) rfl rfl (by (try simp only [List.map_toArray, List.map_cons, List.map_nil]); first | done | rfl) (qcall_cls (v := .bool false) H27x.out) ?_ ?_
  rotate_left
  · simp only [Act.put, List.setIfInBounds_toArray, List.set_cons_zero, List.set_cons_succ]
    rfl
  refine wstep (N := some 101) (v := .bool true) (a' := ?_) rfl (by rfl) (fun w' _ => by go_simp) ?_ ?_
  rotate_left
  · simp only [Act.put, List.setIfInBounds_toArray, List.set_cons_zero, List.set_cons_succ]
    rfl
  refine wstep (N := some 102) (v := .bool true) (a' := ?_) rfl (by rfl) (fun w' _ => by go_simp) ?_ ?_
  rotate_left
  · simp only [Act.put, List.setIfInBounds_toArray, List.set_cons_zero, List.set_cons_succ]
    rfl
  refine wskip (N := some 103) (a' := ?_) rfl (by rfl) ?_ ?_
  rotate_left
  · simp only [Act.put, List.setIfInBounds_toArray, List.set_cons_zero, List.set_cons_succ]
    rfl
  refine wskip (N := some 104) (a' := ?_) rfl (by rfl) ?_ ?_
  rotate_left
  · simp only [Act.put, List.setIfInBounds_toArray, List.set_cons_zero, List.set_cons_succ]
    rfl
  refine wskip (N := some 105) (a' := ?_) rfl (by rfl) ?_ ?_
  rotate_left
  · simp only [Act.put, List.setIfInBounds_toArray, List.set_cons_zero, List.set_cons_succ]
    rfl
  refine wskip (N := some 106) (a' := ?_) rfl (by rfl) ?_ ?_
  rotate_left
  · simp only [Act.put, List.setIfInBounds_toArray, List.set_cons_zero, List.set_cons_succ]
    rfl
  refine wskip (N := some 107) (a' := ?_) rfl (by rfl) ?_ ?_
  rotate_left
  · simp only [Act.put, List.setIfInBounds_toArray, List.set_cons_zero, List.set_cons_succ]
    rfl
  refine wskip (N := some 108) (a' := ?_) rfl (by rfl) ?_ ?_
  rotate_left
  · simp only [Act.put, List.setIfInBounds_toArray, List.set_cons_zero, List.set_cons_succ]
    rfl
  refine wskip (N := some 109) (a' := ?_) rfl (by rfl) ?_ ?_
  rotate_left
  · simp only [Act.put, List.setIfInBounds_toArray, List.set_cons_zero, List.set_cons_succ]
    rfl
  refine wskip (N := some 110) (a' := ?_) rfl (by rfl) ?_ ?_
  rotate_left
  · simp only [Act.put, List.setIfInBounds_toArray, List.set_cons_zero, List.set_cons_succ]
    rfl
  refine wstep (N := some 111) (v := .bool true) (a' := ?_) rfl (by rfl) (fun w' _ => by go_simp) ?_ ?_
  rotate_left
  · simp only [Act.put, List.setIfInBounds_toArray, List.set_cons_zero, List.set_cons_succ]
    rfl
  refine wstep (N := some 112) (v := .bool true) (a' := ?_) rfl (by rfl) (fun w' _ => by go_simp) ?_ ?_
  rotate_left
  · simp only [Act.put, List.setIfInBounds_toArray, List.set_cons_zero, List.set_cons_succ]
    rfl
  refine wcall (N := some 113) (a' := ?_) (f := 23) Try.func23 (by kernel_rfl) rfl #[] (by rfl) rfl rfl (by (try simp only [List.map_toArray, List.map_cons, List.map_nil]); first | done | rfl) (qcall_cls (v := .bool true) H23.out) ?_ ?_
  rotate_left
  · simp only [Act.put, List.setIfInBounds_toArray, List.set_cons_zero, List.set_cons_succ]
    rfl
  refine wstep (N := some 114) (v := .bool true) (a' := ?_) rfl (by rfl) (fun w' _ => by go_simp) ?_ ?_
  rotate_left
  · simp only [Act.put, List.setIfInBounds_toArray, List.set_cons_zero, List.set_cons_succ]
    rfl
  refine wstep (N := some 16) (v := .bool true) (a' := ?_) rfl (by rfl) (fun w' _ => by go_simp) ?_ ?_
  rotate_left
  · simp only [Act.put, List.setIfInBounds_toArray, List.set_cons_zero, List.set_cons_succ]
    rfl
  refine wnil ?_
  intro w_h8 h8_
  have h8 := Aside0.mk h8_
  clear h8_
  go_wp2
  go_ret
  exact ⟨rfl, h8.out.below⟩

set_option maxHeartbeats 4000000 in
set_option maxRecDepth 100000 in
theorem mainD (cs : Array Value) (ts : Array Value) (issued : Int) (e : Int) (later : Int) (ay : Int) (ny : Int) (su : Int) (cs0 cs1 cs2 cs3 cs4 cs5 cs6 cs7 cs8 cs9 cs10 cs11 cs12 cs13 cs14 cs15 cs16 cs17 ts0 ts1 ts2 : Int) (y0 y1 y2 : Int) (w : World) (HS_cs : Aside0 (cs.size = 18)) (HS_ts : Aside0 (ts.size = 3)) (HC_ts_0 : Aside0 (ts[0]? = some (.int .i64 ts0))) (HC_ts_2 : Aside0 (ts[2]? = some (.int .i64 ts2))) (HC_ts_1 : Aside0 (ts[1]? = some (.int .i64 ts1)))
    (H22 : Aside0 (Rets Try.prog 22 #[.agg cs] (.bool true)))
    (H23 : Aside0 (Rets Try.prog 23 #[] (.bool true)))
    (H24x : Aside0 (Rets Try.prog 24 #[.agg ts, .int .i64 issued] (.bool true)))
    (H24y : Aside0 (Rets Try.prog 24 #[.agg #[.int .i64 y0, .int .i64 y1, .int .i64 y2], .int .i64 issued] (.bool true)))
    (H27x : Aside0 (Rets Try.prog 27 #[.agg cs, .agg ts, .int .i64 issued, .int .i64 e] (.bool true)))
    (H27y : Aside0 (Rets Try.prog 27 #[.agg cs, .agg #[.int .i64 y0, .int .i64 y1, .int .i64 y2], .int .i64 issued, .int .i64 (mn 1073741824 (wrap64 (e + later)))] (.bool true)))
    (Y0 : Aside0 (wrap64 ((if (if 0 < ts0 then ts0 else 0) < 8589934592 then if 0 < ts0 then ts0 else 0 else 8589934592) + ay) = y0))
    (Y1 : Aside0 (wrap64 (ts1 - ny) = y1))
    (Y2 : Aside0 (wrap64 ((if (if 0 < ts2 then ts2 else 0) < 8589934592 then if 0 < ts2 then ts2 else 0 else 8589934592) + su) = y2))
    (P0 : Aside0 (¬ (e < 0)))
    (P1 : Aside0 (¬ (e > 1073741824)))
    (P2 : Aside0 (¬ (later < 0)))
    (P3 : Aside0 (¬ (later > 1048576)))
    (P4 : Aside0 (¬ (ay < 0)))
    (P5 : Aside0 (¬ (ay > 1048576)))
    (P6 : Aside0 (¬ (ny < 0)))
    (P7 : Aside0 (¬ (ny > ts1)))
    (P8 : Aside0 (¬ (su < 0)))
    (P9 : Aside0 (¬ (su > 1048576))) :
    Calls Try.prog 5 #[.agg cs, .agg ts, .int .i64 issued, .int .i64 e, .int .i64 later, .int .i64 ay, .int .i64 ny, .int .i64 su] w fun e w' => e = .returned (.bool true) ∧ Below w.heap.size w w' := by
  have HCl : Aside0 (Cls w ((w.heap.size + 1, ts, 29) :: (w.heap.size, cs, 25) :: []) ((w.alloc (.cells cs 25 (0, 0))).alloc (.cells ts 29 (0, 0)))) := ⟨Cls.put2 w _ _ _ _⟩
  go_enter Try.func5, Try.ntmps5
  go_upto_region 1 with (fail)
  refine wregion_p (C := Cls w ((w.heap.size + 1, ts, 29) :: (w.heap.size, cs, 25) :: [])) (HCl.out) ?_
  refine wstep (N := some 18) (v := .agg cs) (a' := ?_) rfl (by rfl) (fun w' h => load_row (h.blk1) rfl rfl Try.underlying25 rfl (by rw [HS_cs.out]; exact info25)) ?_ ?_
  rotate_left
  · simp only [Act.put, List.setIfInBounds_toArray, List.set_cons_zero, List.set_cons_succ]
    rfl
  refine wcall (N := some 19) (a' := ?_) (f := 22) Try.func22 (by kernel_rfl) rfl #[.agg cs] (by rfl) rfl rfl (by (try simp only [List.map_toArray, List.map_cons, List.map_nil]); first | done | rfl) (qcall_cls (v := .bool true) H22.out) ?_ ?_
  rotate_left
  · simp only [Act.put, List.setIfInBounds_toArray, List.set_cons_zero, List.set_cons_succ]
    rfl
  refine wstep (N := some 20) (v := .bool false) (a' := ?_) rfl (by rfl) (fun w' _ => by go_simp) ?_ ?_
  rotate_left
  · simp only [Act.put, List.setIfInBounds_toArray, List.set_cons_zero, List.set_cons_succ]
    rfl
  refine wstep (N := some 21) (v := .bool false) (a' := ?_) rfl (by rfl) (fun w' _ => by go_simp) ?_ ?_
  rotate_left
  · simp only [Act.put, List.setIfInBounds_toArray, List.set_cons_zero, List.set_cons_succ]
    rfl
  refine wstep (N := some 22) (v := .int .i64 e) (a' := ?_) rfl (by rfl) (fun w' _ => by go_simp) ?_ ?_
  rotate_left
  · simp only [Act.put, List.setIfInBounds_toArray, List.set_cons_zero, List.set_cons_succ]
    rfl
  refine wstep (N := some 23) (v := .bool false) (a' := ?_) rfl (by rfl) (fun w' _ => by go_simp; (try simp only [i64_w]); first | exact P0.out | (have h_ := P0.out; omega) | exact cmp_ P0.out | exact cmpd_ P0.out | exact cmpf_ P0.out) ?_ ?_
  rotate_left
  · simp only [Act.put, List.setIfInBounds_toArray, List.set_cons_zero, List.set_cons_succ]
    rfl
  refine wstep (N := some 24) (v := .bool false) (a' := ?_) rfl (by rfl) (fun w' _ => by go_simp) ?_ ?_
  rotate_left
  · simp only [Act.put, List.setIfInBounds_toArray, List.set_cons_zero, List.set_cons_succ]
    rfl
  refine wstep (N := some 25) (v := .bool false) (a' := ?_) rfl (by rfl) (fun w' _ => by go_simp) ?_ ?_
  rotate_left
  · simp only [Act.put, List.setIfInBounds_toArray, List.set_cons_zero, List.set_cons_succ]
    rfl
  refine wstep (N := some 26) (v := .int .i64 e) (a' := ?_) rfl (by rfl) (fun w' _ => by go_simp) ?_ ?_
  rotate_left
  · simp only [Act.put, List.setIfInBounds_toArray, List.set_cons_zero, List.set_cons_succ]
    rfl
  refine wstep (N := some 27) (v := .bool false) (a' := ?_) rfl (by rfl) (fun w' _ => by go_simp; (try simp only [i64_w]); first | exact P1.out | (have h_ := P1.out; omega) | exact cmp_ P1.out | exact cmpd_ P1.out | exact cmpf_ P1.out) ?_ ?_
  rotate_left
  · simp only [Act.put, List.setIfInBounds_toArray, List.set_cons_zero, List.set_cons_succ]
    rfl
  refine wstep (N := some 28) (v := .bool false) (a' := ?_) rfl (by rfl) (fun w' _ => by go_simp) ?_ ?_
  rotate_left
  · simp only [Act.put, List.setIfInBounds_toArray, List.set_cons_zero, List.set_cons_succ]
    rfl
  refine wstep (N := some 29) (v := .bool false) (a' := ?_) rfl (by rfl) (fun w' _ => by go_simp) ?_ ?_
  rotate_left
  · simp only [Act.put, List.setIfInBounds_toArray, List.set_cons_zero, List.set_cons_succ]
    rfl
  refine wstep (N := some 30) (v := .int .i64 later) (a' := ?_) rfl (by rfl) (fun w' _ => by go_simp) ?_ ?_
  rotate_left
  · simp only [Act.put, List.setIfInBounds_toArray, List.set_cons_zero, List.set_cons_succ]
    rfl
  refine wstep (N := some 31) (v := .bool false) (a' := ?_) rfl (by rfl) (fun w' _ => by go_simp; (try simp only [i64_w]); first | exact P2.out | (have h_ := P2.out; omega) | exact cmp_ P2.out | exact cmpd_ P2.out | exact cmpf_ P2.out) ?_ ?_
  rotate_left
  · simp only [Act.put, List.setIfInBounds_toArray, List.set_cons_zero, List.set_cons_succ]
    rfl
  refine wstep (N := some 32) (v := .bool false) (a' := ?_) rfl (by rfl) (fun w' _ => by go_simp) ?_ ?_
  rotate_left
  · simp only [Act.put, List.setIfInBounds_toArray, List.set_cons_zero, List.set_cons_succ]
    rfl
  refine wstep (N := some 33) (v := .bool false) (a' := ?_) rfl (by rfl) (fun w' _ => by go_simp) ?_ ?_
  rotate_left
  · simp only [Act.put, List.setIfInBounds_toArray, List.set_cons_zero, List.set_cons_succ]
    rfl
  refine wstep (N := some 34) (v := .int .i64 later) (a' := ?_) rfl (by rfl) (fun w' _ => by go_simp) ?_ ?_
  rotate_left
  · simp only [Act.put, List.setIfInBounds_toArray, List.set_cons_zero, List.set_cons_succ]
    rfl
  refine wstep (N := some 35) (v := .bool false) (a' := ?_) rfl (by rfl) (fun w' _ => by go_simp; (try simp only [i64_w]); first | exact P3.out | (have h_ := P3.out; omega) | exact cmp_ P3.out | exact cmpd_ P3.out | exact cmpf_ P3.out) ?_ ?_
  rotate_left
  · simp only [Act.put, List.setIfInBounds_toArray, List.set_cons_zero, List.set_cons_succ]
    rfl
  refine wstep (N := some 36) (v := .bool false) (a' := ?_) rfl (by rfl) (fun w' _ => by go_simp) ?_ ?_
  rotate_left
  · simp only [Act.put, List.setIfInBounds_toArray, List.set_cons_zero, List.set_cons_succ]
    rfl
  refine wstep (N := some 37) (v := .bool false) (a' := ?_) rfl (by rfl) (fun w' _ => by go_simp) ?_ ?_
  rotate_left
  · simp only [Act.put, List.setIfInBounds_toArray, List.set_cons_zero, List.set_cons_succ]
    rfl
  refine wstep (N := some 38) (v := .int .i64 ay) (a' := ?_) rfl (by rfl) (fun w' _ => by go_simp) ?_ ?_
  rotate_left
  · simp only [Act.put, List.setIfInBounds_toArray, List.set_cons_zero, List.set_cons_succ]
    rfl
  refine wstep (N := some 39) (v := .bool false) (a' := ?_) rfl (by rfl) (fun w' _ => by go_simp; (try simp only [i64_w]); first | exact P4.out | (have h_ := P4.out; omega) | exact cmp_ P4.out | exact cmpd_ P4.out | exact cmpf_ P4.out) ?_ ?_
  rotate_left
  · simp only [Act.put, List.setIfInBounds_toArray, List.set_cons_zero, List.set_cons_succ]
    rfl
  refine wstep (N := some 40) (v := .bool false) (a' := ?_) rfl (by rfl) (fun w' _ => by go_simp) ?_ ?_
  rotate_left
  · simp only [Act.put, List.setIfInBounds_toArray, List.set_cons_zero, List.set_cons_succ]
    rfl
  refine wstep (N := some 41) (v := .bool false) (a' := ?_) rfl (by rfl) (fun w' _ => by go_simp) ?_ ?_
  rotate_left
  · simp only [Act.put, List.setIfInBounds_toArray, List.set_cons_zero, List.set_cons_succ]
    rfl
  refine wstep (N := some 42) (v := .int .i64 ay) (a' := ?_) rfl (by rfl) (fun w' _ => by go_simp) ?_ ?_
  rotate_left
  · simp only [Act.put, List.setIfInBounds_toArray, List.set_cons_zero, List.set_cons_succ]
    rfl
  refine wstep (N := some 43) (v := .bool false) (a' := ?_) rfl (by rfl) (fun w' _ => by go_simp; (try simp only [i64_w]); first | exact P5.out | (have h_ := P5.out; omega) | exact cmp_ P5.out | exact cmpd_ P5.out | exact cmpf_ P5.out) ?_ ?_
  rotate_left
  · simp only [Act.put, List.setIfInBounds_toArray, List.set_cons_zero, List.set_cons_succ]
    rfl
  refine wstep (N := some 44) (v := .bool false) (a' := ?_) rfl (by rfl) (fun w' _ => by go_simp) ?_ ?_
  rotate_left
  · simp only [Act.put, List.setIfInBounds_toArray, List.set_cons_zero, List.set_cons_succ]
    rfl
  refine wstep (N := some 45) (v := .bool false) (a' := ?_) rfl (by rfl) (fun w' _ => by go_simp) ?_ ?_
  rotate_left
  · simp only [Act.put, List.setIfInBounds_toArray, List.set_cons_zero, List.set_cons_succ]
    rfl
  refine wstep (N := some 46) (v := .int .i64 ny) (a' := ?_) rfl (by rfl) (fun w' _ => by go_simp) ?_ ?_
  rotate_left
  · simp only [Act.put, List.setIfInBounds_toArray, List.set_cons_zero, List.set_cons_succ]
    rfl
  refine wstep (N := some 47) (v := .bool false) (a' := ?_) rfl (by rfl) (fun w' _ => by go_simp; (try simp only [i64_w]); first | exact P6.out | (have h_ := P6.out; omega) | exact cmp_ P6.out | exact cmpd_ P6.out | exact cmpf_ P6.out) ?_ ?_
  rotate_left
  · simp only [Act.put, List.setIfInBounds_toArray, List.set_cons_zero, List.set_cons_succ]
    rfl
  refine wstep (N := some 48) (v := .bool false) (a' := ?_) rfl (by rfl) (fun w' _ => by go_simp) ?_ ?_
  rotate_left
  · simp only [Act.put, List.setIfInBounds_toArray, List.set_cons_zero, List.set_cons_succ]
    rfl
  refine wstep (N := some 49) (v := .bool false) (a' := ?_) rfl (by rfl) (fun w' _ => by go_simp) ?_ ?_
  rotate_left
  · simp only [Act.put, List.setIfInBounds_toArray, List.set_cons_zero, List.set_cons_succ]
    rfl
  refine wstep (N := some 50) (v := .int .i64 ny) (a' := ?_) rfl (by rfl) (fun w' _ => by go_simp) ?_ ?_
  rotate_left
  · simp only [Act.put, List.setIfInBounds_toArray, List.set_cons_zero, List.set_cons_succ]
    rfl
  refine wstep (N := some 51) (v := .pointer (some ⟨(w.heap.size + 1), 1, none⟩)) (a' := ?_) rfl (by rfl) (fun w' _ => by go_simp) ?_ ?_
  rotate_left
  · simp only [Act.put, List.setIfInBounds_toArray, List.set_cons_zero, List.set_cons_succ]
    rfl
  refine wstep (N := some 52) (v := .int .i64 ts1) (a' := ?_) rfl (by rfl) (fun w' h => load_cell (h.blk0) HC_ts_1.out rfl rfl Try.underlying3 rfl) ?_ ?_
  rotate_left
  · simp only [Act.put, List.setIfInBounds_toArray, List.set_cons_zero, List.set_cons_succ]
    rfl
  refine wstep (N := some 53) (v := .bool false) (a' := ?_) rfl (by rfl) (fun w' _ => by go_simp; (try simp only [i64_w]); first | exact P7.out | (have h_ := P7.out; omega) | exact cmp_ P7.out | exact cmpd_ P7.out | exact cmpf_ P7.out) ?_ ?_
  rotate_left
  · simp only [Act.put, List.setIfInBounds_toArray, List.set_cons_zero, List.set_cons_succ]
    rfl
  refine wstep (N := some 54) (v := .bool false) (a' := ?_) rfl (by rfl) (fun w' _ => by go_simp) ?_ ?_
  rotate_left
  · simp only [Act.put, List.setIfInBounds_toArray, List.set_cons_zero, List.set_cons_succ]
    rfl
  refine wstep (N := some 55) (v := .bool false) (a' := ?_) rfl (by rfl) (fun w' _ => by go_simp) ?_ ?_
  rotate_left
  · simp only [Act.put, List.setIfInBounds_toArray, List.set_cons_zero, List.set_cons_succ]
    rfl
  refine wstep (N := some 56) (v := .int .i64 su) (a' := ?_) rfl (by rfl) (fun w' _ => by go_simp) ?_ ?_
  rotate_left
  · simp only [Act.put, List.setIfInBounds_toArray, List.set_cons_zero, List.set_cons_succ]
    rfl
  refine wstep (N := some 57) (v := .bool false) (a' := ?_) rfl (by rfl) (fun w' _ => by go_simp; (try simp only [i64_w]); first | exact P8.out | (have h_ := P8.out; omega) | exact cmp_ P8.out | exact cmpd_ P8.out | exact cmpf_ P8.out) ?_ ?_
  rotate_left
  · simp only [Act.put, List.setIfInBounds_toArray, List.set_cons_zero, List.set_cons_succ]
    rfl
  refine wstep (N := some 58) (v := .bool false) (a' := ?_) rfl (by rfl) (fun w' _ => by go_simp) ?_ ?_
  rotate_left
  · simp only [Act.put, List.setIfInBounds_toArray, List.set_cons_zero, List.set_cons_succ]
    rfl
  refine wstep (N := some 59) (v := .bool false) (a' := ?_) rfl (by rfl) (fun w' _ => by go_simp) ?_ ?_
  rotate_left
  · simp only [Act.put, List.setIfInBounds_toArray, List.set_cons_zero, List.set_cons_succ]
    rfl
  refine wstep (N := some 60) (v := .int .i64 su) (a' := ?_) rfl (by rfl) (fun w' _ => by go_simp) ?_ ?_
  rotate_left
  · simp only [Act.put, List.setIfInBounds_toArray, List.set_cons_zero, List.set_cons_succ]
    rfl
  refine wstep (N := some 61) (v := .bool false) (a' := ?_) rfl (by rfl) (fun w' _ => by go_simp; (try simp only [i64_w]); first | exact P9.out | (have h_ := P9.out; omega) | exact cmp_ P9.out | exact cmpd_ P9.out | exact cmpf_ P9.out) ?_ ?_
  rotate_left
  · simp only [Act.put, List.setIfInBounds_toArray, List.set_cons_zero, List.set_cons_succ]
    rfl
  refine wstep (N := some 62) (v := .bool false) (a' := ?_) rfl (by rfl) (fun w' _ => by go_simp) ?_ ?_
  rotate_left
  · simp only [Act.put, List.setIfInBounds_toArray, List.set_cons_zero, List.set_cons_succ]
    rfl
  refine wnil ?_
  intro w_h1 h1_
  have h1 := Aside0.mk h1_
  clear h1_
  have c0 := (blk_cell h1.out.blk0 0).trans HC_ts_0.out
  have c1 := (blk_cell h1.out.blk0 1).trans HC_ts_1.out
  have c2 := (blk_cell h1.out.blk0 2).trans HC_ts_2.out
  have Y0o := Y0.out
  have Y1o := Y1.out
  have Y2o := Y2.out
  clear Y0 Y1 Y2
  obtain ⟨z0, hz0⟩ : ∃ z : Int, (if 0 < ts0 then ts0 else 0) = z := ⟨_, rfl⟩
  rw [hz0] at Y0o
  obtain ⟨z1, hz1⟩ : ∃ z : Int, (if z0 < 8589934592 then z0 else 8589934592) = z := ⟨_, rfl⟩
  rw [hz1] at Y0o
  obtain ⟨z2, hz2⟩ : ∃ z : Int, (if 0 < ts2 then ts2 else 0) = z := ⟨_, rfl⟩
  rw [hz2] at Y2o
  obtain ⟨z3, hz3⟩ : ∃ z : Int, (if z2 < 8589934592 then z2 else 8589934592) = z := ⟨_, rfl⟩
  rw [hz3] at Y2o
  have Y0 := Aside0.mk Y0o
  have Y1 := Aside0.mk Y1o
  have Y2 := Aside0.mk Y2o
  clear Y0o Y1o Y2o
  go_upto_region 6 with (fail)
  clear c0 c1 c2 hz0 hz1 hz2 hz3
  simp only [Y0.out, Y1.out, Y2.out]
  obtain ⟨ys, hys⟩ : ∃ ys : Array Value, ys = #[.int .i64 y0, .int .i64 y1, .int .i64 y2] := ⟨_, rfl⟩
  rw [← hys] at H24y H27y ⊢
  have HS_ys : Aside0 (ys.size = 3) := ⟨by rw [hys]; rfl⟩
  have h5 : Aside0 (Cls w ((w_h1.heap.size, ys, 29) :: (w.heap.size + 1, ts, 29) :: (w.heap.size, cs, 25) :: []) (w_h1.alloc (.cells ys 29 (0, 0)))) := ⟨h1.out.put ys 29⟩
  have HYS := Aside0.mk hys
  clear hys
  go_upto_region 6 with (fail)
  refine wregion_p (C := Cls w ((w_h1.heap.size, ys, 29) :: (w.heap.size + 1, ts, 29) :: (w.heap.size, cs, 25) :: [])) (h5.out) ?_
  refine wstep (N := some 86) (v := .agg ts) (a' := ?_) rfl (by rfl) (fun w' h => load_row (h.blk1) rfl rfl Try.underlying29 rfl (by rw [HS_ts.out]; exact info29)) ?_ ?_
  rotate_left
  · simp only [Act.put, List.setIfInBounds_toArray, List.set_cons_zero, List.set_cons_succ]
    rfl
  refine wstep (N := some 87) (v := .int .i64 issued) (a' := ?_) rfl (by rfl) (fun w' _ => by go_simp) ?_ ?_
  rotate_left
  · simp only [Act.put, List.setIfInBounds_toArray, List.set_cons_zero, List.set_cons_succ]
    rfl
  refine wcall (N := some 88) (a' := ?_) (f := 24) Try.func24 (by kernel_rfl) rfl #[.agg ts, .int .i64 issued] (by rfl) rfl rfl (by (try simp only [List.map_toArray, List.map_cons, List.map_nil]); first | done | rfl) (qcall_cls (v := .bool true) H24x.out) ?_ ?_
  rotate_left
  · simp only [Act.put, List.setIfInBounds_toArray, List.set_cons_zero, List.set_cons_succ]
    rfl
  refine wstep (N := some 89) (v := .bool false) (a' := ?_) rfl (by rfl) (fun w' _ => by go_simp) ?_ ?_
  rotate_left
  · simp only [Act.put, List.setIfInBounds_toArray, List.set_cons_zero, List.set_cons_succ]
    rfl
  refine wstep (N := some 90) (v := .bool false) (a' := ?_) rfl (by rfl) (fun w' _ => by go_simp) ?_ ?_
  rotate_left
  · simp only [Act.put, List.setIfInBounds_toArray, List.set_cons_zero, List.set_cons_succ]
    rfl
  refine wstep (N := some 91) (v := .agg ys) (a' := ?_) rfl (by rfl) (fun w' h => load_row (h.blk0) rfl rfl Try.underlying29 rfl (by rw [HS_ys.out]; exact info29)) ?_ ?_
  rotate_left
  · simp only [Act.put, List.setIfInBounds_toArray, List.set_cons_zero, List.set_cons_succ]
    rfl
  refine wstep (N := some 92) (v := .int .i64 issued) (a' := ?_) rfl (by rfl) (fun w' _ => by go_simp) ?_ ?_
  rotate_left
  · simp only [Act.put, List.setIfInBounds_toArray, List.set_cons_zero, List.set_cons_succ]
    rfl
  refine wcall (N := some 93) (a' := ?_) (f := 24) Try.func24 (by kernel_rfl) rfl #[.agg ys, .int .i64 issued] (by rfl) rfl rfl (by (try simp only [List.map_toArray, List.map_cons, List.map_nil]); first | done | rfl) (qcall_cls (v := .bool true) H24y.out) ?_ ?_
  rotate_left
  · simp only [Act.put, List.setIfInBounds_toArray, List.set_cons_zero, List.set_cons_succ]
    rfl
  refine wstep (N := some 94) (v := .bool false) (a' := ?_) rfl (by rfl) (fun w' _ => by go_simp) ?_ ?_
  rotate_left
  · simp only [Act.put, List.setIfInBounds_toArray, List.set_cons_zero, List.set_cons_succ]
    rfl
  refine wstep (N := some 95) (v := .bool false) (a' := ?_) rfl (by rfl) (fun w' _ => by go_simp) ?_ ?_
  rotate_left
  · simp only [Act.put, List.setIfInBounds_toArray, List.set_cons_zero, List.set_cons_succ]
    rfl
  refine wnil ?_
  intro w_h6 h6_
  have h6 := Aside0.mk h6_
  clear h6_
  go_upto_region 8 with (fail)
  refine wregion_p (C := Cls w ((w_h1.heap.size, ys, 29) :: (w.heap.size + 1, ts, 29) :: (w.heap.size, cs, 25) :: [])) (h6.out) ?_
  refine wstep (N := some 96) (v := .agg cs) (a' := ?_) rfl (by rfl) (fun w' h => load_row (h.blk2) rfl rfl Try.underlying25 rfl (by rw [HS_cs.out]; exact info25)) ?_ ?_
  rotate_left
  · simp only [Act.put, List.setIfInBounds_toArray, List.set_cons_zero, List.set_cons_succ]
    rfl
  refine wstep (N := some 97) (v := .agg ts) (a' := ?_) rfl (by rfl) (fun w' h => load_row (h.blk1) rfl rfl Try.underlying29 rfl (by rw [HS_ts.out]; exact info29)) ?_ ?_
  rotate_left
  · simp only [Act.put, List.setIfInBounds_toArray, List.set_cons_zero, List.set_cons_succ]
    rfl
  refine wstep (N := some 98) (v := .int .i64 issued) (a' := ?_) rfl (by rfl) (fun w' _ => by go_simp) ?_ ?_
  rotate_left
  · simp only [Act.put, List.setIfInBounds_toArray, List.set_cons_zero, List.set_cons_succ]
    rfl
  refine wstep (N := some 99) (v := .int .i64 e) (a' := ?_) rfl (by rfl) (fun w' _ => by go_simp) ?_ ?_
  rotate_left
  · simp only [Act.put, List.setIfInBounds_toArray, List.set_cons_zero, List.set_cons_succ]
    rfl
  refine wcall (N := some 100) (a' := ?_) (f := 27) Try.func27 (by kernel_rfl) rfl #[.agg cs, .agg ts, .int .i64 issued, .int .i64 e] (by rfl) rfl rfl (by (try simp only [List.map_toArray, List.map_cons, List.map_nil]); first | done | rfl) (qcall_cls (v := .bool true) H27x.out) ?_ ?_
  rotate_left
  · simp only [Act.put, List.setIfInBounds_toArray, List.set_cons_zero, List.set_cons_succ]
    rfl
  refine wstep (N := some 101) (v := .bool false) (a' := ?_) rfl (by rfl) (fun w' _ => by go_simp) ?_ ?_
  rotate_left
  · simp only [Act.put, List.setIfInBounds_toArray, List.set_cons_zero, List.set_cons_succ]
    rfl
  refine wstep (N := some 102) (v := .bool false) (a' := ?_) rfl (by rfl) (fun w' _ => by go_simp) ?_ ?_
  rotate_left
  · simp only [Act.put, List.setIfInBounds_toArray, List.set_cons_zero, List.set_cons_succ]
    rfl
  refine wstep (N := some 103) (v := .agg cs) (a' := ?_) rfl (by rfl) (fun w' h => load_row (h.blk2) rfl rfl Try.underlying25 rfl (by rw [HS_cs.out]; exact info25)) ?_ ?_
  rotate_left
  · simp only [Act.put, List.setIfInBounds_toArray, List.set_cons_zero, List.set_cons_succ]
    rfl
  refine wstep (N := some 104) (v := .agg ys) (a' := ?_) rfl (by rfl) (fun w' h => load_row (h.blk0) rfl rfl Try.underlying29 rfl (by rw [HS_ys.out]; exact info29)) ?_ ?_
  rotate_left
  · simp only [Act.put, List.setIfInBounds_toArray, List.set_cons_zero, List.set_cons_succ]
    rfl
  refine wstep (N := some 105) (v := .int .i64 issued) (a' := ?_) rfl (by rfl) (fun w' _ => by go_simp) ?_ ?_
  rotate_left
  · simp only [Act.put, List.setIfInBounds_toArray, List.set_cons_zero, List.set_cons_succ]
    rfl
  refine wstep (N := some 106) (v := .int .i64 e) (a' := ?_) rfl (by rfl) (fun w' _ => by go_simp) ?_ ?_
  rotate_left
  · simp only [Act.put, List.setIfInBounds_toArray, List.set_cons_zero, List.set_cons_succ]
    rfl
  refine wstep (N := some 107) (v := .int .i64 later) (a' := ?_) rfl (by rfl) (fun w' _ => by go_simp) ?_ ?_
  rotate_left
  · simp only [Act.put, List.setIfInBounds_toArray, List.set_cons_zero, List.set_cons_succ]
    rfl
  refine wstep (N := some 108) (v := .int .i64 (wrap64 (e + later))) (a' := ?_) rfl (by rfl) (fun w' _ => by go_simp <;> simp only [i64_w]) ?_ ?_
  rotate_left
  · simp only [Act.put, List.setIfInBounds_toArray, List.set_cons_zero, List.set_cons_succ]
    rfl
  refine wstep (N := some 109) (v := .int .i64 (mn 1073741824 (wrap64 (e + later)))) (a' := ?_) rfl (by rfl) (fun w' _ => by go_simp <;> rfl) ?_ ?_
  rotate_left
  · simp only [Act.put, List.setIfInBounds_toArray, List.set_cons_zero, List.set_cons_succ]
    rfl
  refine wcall (N := some 110) (a' := ?_) (f := 27) Try.func27 (by kernel_rfl) rfl #[.agg cs, .agg ys, .int .i64 issued, .int .i64 (mn 1073741824 (wrap64 (e + later)))] (by rfl) rfl rfl (by (try simp only [List.map_toArray, List.map_cons, List.map_nil]); first | done | rfl) (qcall_cls (v := .bool true) H27y.out) ?_ ?_
  rotate_left
  · simp only [Act.put, List.setIfInBounds_toArray, List.set_cons_zero, List.set_cons_succ]
    rfl
  refine wstep (N := some 111) (v := .bool true) (a' := ?_) rfl (by rfl) (fun w' _ => by go_simp) ?_ ?_
  rotate_left
  · simp only [Act.put, List.setIfInBounds_toArray, List.set_cons_zero, List.set_cons_succ]
    rfl
  refine wstep (N := some 112) (v := .bool true) (a' := ?_) rfl (by rfl) (fun w' _ => by go_simp) ?_ ?_
  rotate_left
  · simp only [Act.put, List.setIfInBounds_toArray, List.set_cons_zero, List.set_cons_succ]
    rfl
  refine wcall (N := some 113) (a' := ?_) (f := 23) Try.func23 (by kernel_rfl) rfl #[] (by rfl) rfl rfl (by (try simp only [List.map_toArray, List.map_cons, List.map_nil]); first | done | rfl) (qcall_cls (v := .bool true) H23.out) ?_ ?_
  rotate_left
  · simp only [Act.put, List.setIfInBounds_toArray, List.set_cons_zero, List.set_cons_succ]
    rfl
  refine wstep (N := some 114) (v := .bool true) (a' := ?_) rfl (by rfl) (fun w' _ => by go_simp) ?_ ?_
  rotate_left
  · simp only [Act.put, List.setIfInBounds_toArray, List.set_cons_zero, List.set_cons_succ]
    rfl
  refine wstep (N := some 16) (v := .bool true) (a' := ?_) rfl (by rfl) (fun w' _ => by go_simp) ?_ ?_
  rotate_left
  · simp only [Act.put, List.setIfInBounds_toArray, List.set_cons_zero, List.set_cons_succ]
    rfl
  refine wnil ?_
  intro w_h8 h8_
  have h8 := Aside0.mk h8_
  clear h8_
  go_wp2
  go_ret
  exact ⟨rfl, h8.out.below⟩


open TrackBase in
theorem walk (cs0 cs1 cs2 cs3 cs4 cs5 cs6 cs7 cs8 cs9 cs10 cs11 cs12 cs13 cs14 cs15 cs16 cs17 x0 x1 x2 issued e later ay ny su : Int) (w : World) (_ : (Lit.int .i64 x0).wf = true ∧ (Lit.int .i64 x1).wf = true ∧ (Lit.int .i64 x2).wf = true) (_ : (Lit.int .i64 issued).wf = true) (_ : (Lit.int .i64 e).wf = true) (_ : (Lit.int .i64 later).wf = true) (_ : (Lit.int .i64 ay).wf = true) (_ : (Lit.int .i64 ny).wf = true) (_ : (Lit.int .i64 su).wf = true) :
    Calls Try.prog 5 #[agg18 cs0 cs1 cs2 cs3 cs4 cs5 cs6 cs7 cs8 cs9 cs10 cs11 cs12 cs13 cs14 cs15 cs16 cs17, agg3 x0 x1 x2, .int .i64 issued, .int .i64 e, .int .i64 later, .int .i64 ay, .int .i64 ny, .int .i64 su] w fun e w' => e = .returned (.bool true) ∧ Below w.heap.size w w' := by
  by_cases ok : okTrack cs0 cs1 cs2 cs3 cs4 cs5 cs6 cs7 cs8 cs9 cs10 cs11 cs12 cs13 cs14 cs15 cs16 cs17
  · have h22 := is_ cs0 cs1 cs2 cs3 cs4 cs5 cs6 cs7 cs8 cs9 cs10 cs11 cs12 cs13 cs14 cs15 cs16 cs17 (decide_eq_true ok)
    by_cases g0 : e < 0
    · exact early1 (cs := _) (ts := _) (issued := issued) (e := e) (later := later) (ay := ay) (ny := ny) (su := su) (w := w) (HS_cs := ⟨rfl⟩) (HS_ts := ⟨rfl⟩) (H22 := ⟨h22⟩) (P0 := ⟨g0⟩) (cs0 := cs0) (cs1 := cs1) (cs2 := cs2) (cs3 := cs3) (cs4 := cs4) (cs5 := cs5) (cs6 := cs6) (cs7 := cs7) (cs8 := cs8) (cs9 := cs9) (cs10 := cs10) (cs11 := cs11) (cs12 := cs12) (cs13 := cs13) (cs14 := cs14) (cs15 := cs15) (cs16 := cs16) (cs17 := cs17) (ts0 := x0) (ts1 := x1) (ts2 := x2)
    by_cases g1 : e > 1073741824
    · exact early2 (cs := _) (ts := _) (issued := issued) (e := e) (later := later) (ay := ay) (ny := ny) (su := su) (w := w) (HS_cs := ⟨rfl⟩) (HS_ts := ⟨rfl⟩) (H22 := ⟨h22⟩) (P0 := ⟨g0⟩) (P1 := ⟨g1⟩) (cs0 := cs0) (cs1 := cs1) (cs2 := cs2) (cs3 := cs3) (cs4 := cs4) (cs5 := cs5) (cs6 := cs6) (cs7 := cs7) (cs8 := cs8) (cs9 := cs9) (cs10 := cs10) (cs11 := cs11) (cs12 := cs12) (cs13 := cs13) (cs14 := cs14) (cs15 := cs15) (cs16 := cs16) (cs17 := cs17) (ts0 := x0) (ts1 := x1) (ts2 := x2)
    by_cases g2 : later < 0
    · exact early3 (cs := _) (ts := _) (issued := issued) (e := e) (later := later) (ay := ay) (ny := ny) (su := su) (w := w) (HS_cs := ⟨rfl⟩) (HS_ts := ⟨rfl⟩) (H22 := ⟨h22⟩) (P0 := ⟨g0⟩) (P1 := ⟨g1⟩) (P2 := ⟨g2⟩) (cs0 := cs0) (cs1 := cs1) (cs2 := cs2) (cs3 := cs3) (cs4 := cs4) (cs5 := cs5) (cs6 := cs6) (cs7 := cs7) (cs8 := cs8) (cs9 := cs9) (cs10 := cs10) (cs11 := cs11) (cs12 := cs12) (cs13 := cs13) (cs14 := cs14) (cs15 := cs15) (cs16 := cs16) (cs17 := cs17) (ts0 := x0) (ts1 := x1) (ts2 := x2)
    by_cases g3 : later > 1048576
    · exact early4 (cs := _) (ts := _) (issued := issued) (e := e) (later := later) (ay := ay) (ny := ny) (su := su) (w := w) (HS_cs := ⟨rfl⟩) (HS_ts := ⟨rfl⟩) (H22 := ⟨h22⟩) (P0 := ⟨g0⟩) (P1 := ⟨g1⟩) (P2 := ⟨g2⟩) (P3 := ⟨g3⟩) (cs0 := cs0) (cs1 := cs1) (cs2 := cs2) (cs3 := cs3) (cs4 := cs4) (cs5 := cs5) (cs6 := cs6) (cs7 := cs7) (cs8 := cs8) (cs9 := cs9) (cs10 := cs10) (cs11 := cs11) (cs12 := cs12) (cs13 := cs13) (cs14 := cs14) (cs15 := cs15) (cs16 := cs16) (cs17 := cs17) (ts0 := x0) (ts1 := x1) (ts2 := x2)
    by_cases g4 : ay < 0
    · exact early5 (cs := _) (ts := _) (issued := issued) (e := e) (later := later) (ay := ay) (ny := ny) (su := su) (w := w) (HS_cs := ⟨rfl⟩) (HS_ts := ⟨rfl⟩) (H22 := ⟨h22⟩) (P0 := ⟨g0⟩) (P1 := ⟨g1⟩) (P2 := ⟨g2⟩) (P3 := ⟨g3⟩) (P4 := ⟨g4⟩) (cs0 := cs0) (cs1 := cs1) (cs2 := cs2) (cs3 := cs3) (cs4 := cs4) (cs5 := cs5) (cs6 := cs6) (cs7 := cs7) (cs8 := cs8) (cs9 := cs9) (cs10 := cs10) (cs11 := cs11) (cs12 := cs12) (cs13 := cs13) (cs14 := cs14) (cs15 := cs15) (cs16 := cs16) (cs17 := cs17) (ts0 := x0) (ts1 := x1) (ts2 := x2)
    by_cases g5 : ay > 1048576
    · exact early6 (cs := _) (ts := _) (issued := issued) (e := e) (later := later) (ay := ay) (ny := ny) (su := su) (w := w) (HS_cs := ⟨rfl⟩) (HS_ts := ⟨rfl⟩) (H22 := ⟨h22⟩) (P0 := ⟨g0⟩) (P1 := ⟨g1⟩) (P2 := ⟨g2⟩) (P3 := ⟨g3⟩) (P4 := ⟨g4⟩) (P5 := ⟨g5⟩) (cs0 := cs0) (cs1 := cs1) (cs2 := cs2) (cs3 := cs3) (cs4 := cs4) (cs5 := cs5) (cs6 := cs6) (cs7 := cs7) (cs8 := cs8) (cs9 := cs9) (cs10 := cs10) (cs11 := cs11) (cs12 := cs12) (cs13 := cs13) (cs14 := cs14) (cs15 := cs15) (cs16 := cs16) (cs17 := cs17) (ts0 := x0) (ts1 := x1) (ts2 := x2)
    by_cases g6 : ny < 0
    · exact early7 (cs := _) (ts := _) (issued := issued) (e := e) (later := later) (ay := ay) (ny := ny) (su := su) (w := w) (HS_cs := ⟨rfl⟩) (HS_ts := ⟨rfl⟩) (H22 := ⟨h22⟩) (P0 := ⟨g0⟩) (P1 := ⟨g1⟩) (P2 := ⟨g2⟩) (P3 := ⟨g3⟩) (P4 := ⟨g4⟩) (P5 := ⟨g5⟩) (P6 := ⟨g6⟩) (cs0 := cs0) (cs1 := cs1) (cs2 := cs2) (cs3 := cs3) (cs4 := cs4) (cs5 := cs5) (cs6 := cs6) (cs7 := cs7) (cs8 := cs8) (cs9 := cs9) (cs10 := cs10) (cs11 := cs11) (cs12 := cs12) (cs13 := cs13) (cs14 := cs14) (cs15 := cs15) (cs16 := cs16) (cs17 := cs17) (ts0 := x0) (ts1 := x1) (ts2 := x2)
    by_cases g7 : ny > x1
    · exact early8 (cs := _) (ts := _) (issued := issued) (e := e) (later := later) (ay := ay) (ny := ny) (su := su) (w := w) (HS_cs := ⟨rfl⟩) (HS_ts := ⟨rfl⟩) (HC_ts_1 := ⟨rfl⟩) (H22 := ⟨h22⟩) (P0 := ⟨g0⟩) (P1 := ⟨g1⟩) (P2 := ⟨g2⟩) (P3 := ⟨g3⟩) (P4 := ⟨g4⟩) (P5 := ⟨g5⟩) (P6 := ⟨g6⟩) (P7 := ⟨g7⟩) (cs0 := cs0) (cs1 := cs1) (cs2 := cs2) (cs3 := cs3) (cs4 := cs4) (cs5 := cs5) (cs6 := cs6) (cs7 := cs7) (cs8 := cs8) (cs9 := cs9) (cs10 := cs10) (cs11 := cs11) (cs12 := cs12) (cs13 := cs13) (cs14 := cs14) (cs15 := cs15) (cs16 := cs16) (cs17 := cs17) (ts0 := x0) (ts1 := x1) (ts2 := x2)
    by_cases g8 : su < 0
    · exact early9 (cs := _) (ts := _) (issued := issued) (e := e) (later := later) (ay := ay) (ny := ny) (su := su) (w := w) (HS_cs := ⟨rfl⟩) (HS_ts := ⟨rfl⟩) (HC_ts_1 := ⟨rfl⟩) (H22 := ⟨h22⟩) (P0 := ⟨g0⟩) (P1 := ⟨g1⟩) (P2 := ⟨g2⟩) (P3 := ⟨g3⟩) (P4 := ⟨g4⟩) (P5 := ⟨g5⟩) (P6 := ⟨g6⟩) (P7 := ⟨g7⟩) (P8 := ⟨g8⟩) (cs0 := cs0) (cs1 := cs1) (cs2 := cs2) (cs3 := cs3) (cs4 := cs4) (cs5 := cs5) (cs6 := cs6) (cs7 := cs7) (cs8 := cs8) (cs9 := cs9) (cs10 := cs10) (cs11 := cs11) (cs12 := cs12) (cs13 := cs13) (cs14 := cs14) (cs15 := cs15) (cs16 := cs16) (cs17 := cs17) (ts0 := x0) (ts1 := x1) (ts2 := x2)
    by_cases g9 : su > 1048576
    · exact early10 (cs := _) (ts := _) (issued := issued) (e := e) (later := later) (ay := ay) (ny := ny) (su := su) (w := w) (HS_cs := ⟨rfl⟩) (HS_ts := ⟨rfl⟩) (HC_ts_1 := ⟨rfl⟩) (H22 := ⟨h22⟩) (P0 := ⟨g0⟩) (P1 := ⟨g1⟩) (P2 := ⟨g2⟩) (P3 := ⟨g3⟩) (P4 := ⟨g4⟩) (P5 := ⟨g5⟩) (P6 := ⟨g6⟩) (P7 := ⟨g7⟩) (P8 := ⟨g8⟩) (P9 := ⟨g9⟩) (cs0 := cs0) (cs1 := cs1) (cs2 := cs2) (cs3 := cs3) (cs4 := cs4) (cs5 := cs5) (cs6 := cs6) (cs7 := cs7) (cs8 := cs8) (cs9 := cs9) (cs10 := cs10) (cs11 := cs11) (cs12 := cs12) (cs13 := cs13) (cs14 := cs14) (cs15 := cs15) (cs16 := cs16) (cs17 := cs17) (ts0 := x0) (ts1 := x1) (ts2 := x2)
    by_cases hx : okTally x0 x1 x2 issued
    · have hxx := hx
      obtain ⟨x00, x10, x01, x11, x20, x21, n0, n1⟩ := hxx
      have y0 : wrap64 ((if (if 0 < x0 then x0 else 0) < 8589934592 then if 0 < x0 then x0 else 0 else 8589934592) + ay) = x0 + ay := by
        rw [show (if 0 < x0 then x0 else 0) = x0 by omega, show (if x0 < 8589934592 then x0 else 8589934592) = x0 by omega, w64 (by omega) (by omega)]
      have y1 : wrap64 (x1 - ny) = x1 - ny := w64 (by omega) (by omega)
      have y2 : wrap64 ((if (if 0 < x2 then x2 else 0) < 8589934592 then if 0 < x2 then x2 else 0 else 8589934592) + su) = x2 + su := by
        rw [show (if 0 < x2 then x2 else 0) = x2 by omega, show (if x2 < 8589934592 then x2 else 8589934592) = x2 by omega, w64 (by omega) (by omega)]
      have h24 := fits_ x0 x1 x2 issued (decide_eq_true hx)
      by_cases hy : okTally (x0 + ay) (x1 - ny) (x2 + su) issued
      · have h24y := fits_ (x0 + ay) (x1 - ny) (x2 + su) issued (decide_eq_true hy)
        have okt := ok
        obtain ⟨_, _, _, _, _, _, ⟨d1, d2⟩, okA, okS, _⟩ := ok
        by_cases hp : pass cs3 cs6 cs7 cs8 cs9 cs10 cs11 cs12 cs13 cs14 cs15 x0 x1 x2 issued e
        · have e' : mn 1073741824 (wrap64 (e + later)) = min 1073741824 (e + later) := by rw [w64 (by omega) (by omega), mn_eq]
          have hq := pass_more (n := issued) (e' := min 1073741824 (e + later)) okA okS d1 x00 x10 x20 n0 (by omega) (by omega) (k := ay) (m := ny) (s := su) (by omega) (by omega) (by omega) (by omega) hp
          refine mainD (cs := _) (ts := _) (issued := issued) (e := e) (later := later) (ay := ay) (ny := ny) (su := su) (w := w) (HS_cs := ⟨rfl⟩) (HS_ts := ⟨rfl⟩) (HC_ts_0 := ⟨rfl⟩) (HC_ts_1 := ⟨rfl⟩) (HC_ts_2 := ⟨rfl⟩) (H22 := ⟨h22⟩) (H23 := ⟨known_⟩) (P0 := ⟨g0⟩) (P1 := ⟨g1⟩) (P2 := ⟨g2⟩) (P3 := ⟨g3⟩) (P4 := ⟨g4⟩) (P5 := ⟨g5⟩) (P6 := ⟨g6⟩) (P7 := ⟨g7⟩) (P8 := ⟨g8⟩) (P9 := ⟨g9⟩) (H24x := ⟨h24⟩) (H24y := ⟨h24y⟩) (H27x := ⟨passing_ cs0 cs1 cs2 cs3 cs4 cs5 cs6 cs7 cs8 cs9 cs10 cs11 cs12 cs13 cs14 cs15 cs16 cs17 x0 x1 x2 issued e okt hx (by omega) (decide_eq_true hp)⟩) (H27y := ⟨?_⟩) (Y0 := ⟨y0⟩) (Y1 := ⟨y1⟩) (Y2 := ⟨y2⟩) (cs0 := cs0) (cs1 := cs1) (cs2 := cs2) (cs3 := cs3) (cs4 := cs4) (cs5 := cs5) (cs6 := cs6) (cs7 := cs7) (cs8 := cs8) (cs9 := cs9) (cs10 := cs10) (cs11 := cs11) (cs12 := cs12) (cs13 := cs13) (cs14 := cs14) (cs15 := cs15) (cs16 := cs16) (cs17 := cs17) (ts0 := x0) (ts1 := x1) (ts2 := x2)
          rw [e']
          exact passing_ cs0 cs1 cs2 cs3 cs4 cs5 cs6 cs7 cs8 cs9 cs10 cs11 cs12 cs13 cs14 cs15 cs16 cs17 (x0 + ay) (x1 - ny) (x2 + su) issued (min 1073741824 (e + later)) okt hy (by omega) (decide_eq_true hq)
        · exact mainC (cs := _) (ts := _) (issued := issued) (e := e) (later := later) (ay := ay) (ny := ny) (su := su) (w := w) (HS_cs := ⟨rfl⟩) (HS_ts := ⟨rfl⟩) (HC_ts_0 := ⟨rfl⟩) (HC_ts_1 := ⟨rfl⟩) (HC_ts_2 := ⟨rfl⟩) (H22 := ⟨h22⟩) (H23 := ⟨known_⟩) (P0 := ⟨g0⟩) (P1 := ⟨g1⟩) (P2 := ⟨g2⟩) (P3 := ⟨g3⟩) (P4 := ⟨g4⟩) (P5 := ⟨g5⟩) (P6 := ⟨g6⟩) (P7 := ⟨g7⟩) (P8 := ⟨g8⟩) (P9 := ⟨g9⟩) (H24x := ⟨h24⟩) (H24y := ⟨h24y⟩) (H27x := ⟨passing_ cs0 cs1 cs2 cs3 cs4 cs5 cs6 cs7 cs8 cs9 cs10 cs11 cs12 cs13 cs14 cs15 cs16 cs17 x0 x1 x2 issued e okt hx (by omega) (decide_eq_false hp)⟩) (Y0 := ⟨y0⟩) (Y1 := ⟨y1⟩) (Y2 := ⟨y2⟩) (cs0 := cs0) (cs1 := cs1) (cs2 := cs2) (cs3 := cs3) (cs4 := cs4) (cs5 := cs5) (cs6 := cs6) (cs7 := cs7) (cs8 := cs8) (cs9 := cs9) (cs10 := cs10) (cs11 := cs11) (cs12 := cs12) (cs13 := cs13) (cs14 := cs14) (cs15 := cs15) (cs16 := cs16) (cs17 := cs17) (ts0 := x0) (ts1 := x1) (ts2 := x2)
      · exact mainB (cs := _) (ts := _) (issued := issued) (e := e) (later := later) (ay := ay) (ny := ny) (su := su) (w := w) (HS_cs := ⟨rfl⟩) (HS_ts := ⟨rfl⟩) (HC_ts_0 := ⟨rfl⟩) (HC_ts_1 := ⟨rfl⟩) (HC_ts_2 := ⟨rfl⟩) (H22 := ⟨h22⟩) (H23 := ⟨known_⟩) (P0 := ⟨g0⟩) (P1 := ⟨g1⟩) (P2 := ⟨g2⟩) (P3 := ⟨g3⟩) (P4 := ⟨g4⟩) (P5 := ⟨g5⟩) (P6 := ⟨g6⟩) (P7 := ⟨g7⟩) (P8 := ⟨g8⟩) (P9 := ⟨g9⟩) (H24x := ⟨h24⟩) (H24y := ⟨fits_ (x0 + ay) (x1 - ny) (x2 + su) issued (decide_eq_false hy)⟩) (Y0 := ⟨y0⟩) (Y1 := ⟨y1⟩) (Y2 := ⟨y2⟩) (cs0 := cs0) (cs1 := cs1) (cs2 := cs2) (cs3 := cs3) (cs4 := cs4) (cs5 := cs5) (cs6 := cs6) (cs7 := cs7) (cs8 := cs8) (cs9 := cs9) (cs10 := cs10) (cs11 := cs11) (cs12 := cs12) (cs13 := cs13) (cs14 := cs14) (cs15 := cs15) (cs16 := cs16) (cs17 := cs17) (ts0 := x0) (ts1 := x1) (ts2 := x2)
    · exact mainA (cs := _) (ts := _) (issued := issued) (e := e) (later := later) (ay := ay) (ny := ny) (su := su) (w := w) (HS_cs := ⟨rfl⟩) (HS_ts := ⟨rfl⟩) (HC_ts_0 := ⟨rfl⟩) (HC_ts_1 := ⟨rfl⟩) (HC_ts_2 := ⟨rfl⟩) (H22 := ⟨h22⟩) (H23 := ⟨known_⟩) (P0 := ⟨g0⟩) (P1 := ⟨g1⟩) (P2 := ⟨g2⟩) (P3 := ⟨g3⟩) (P4 := ⟨g4⟩) (P5 := ⟨g5⟩) (P6 := ⟨g6⟩) (P7 := ⟨g7⟩) (P8 := ⟨g8⟩) (P9 := ⟨g9⟩) (H24x := ⟨fits_ x0 x1 x2 issued (decide_eq_false hx)⟩) (Y0 := ⟨rfl⟩) (Y1 := ⟨rfl⟩) (Y2 := ⟨rfl⟩) (cs0 := cs0) (cs1 := cs1) (cs2 := cs2) (cs3 := cs3) (cs4 := cs4) (cs5 := cs5) (cs6 := cs6) (cs7 := cs7) (cs8 := cs8) (cs9 := cs9) (cs10 := cs10) (cs11 := cs11) (cs12 := cs12) (cs13 := cs13) (cs14 := cs14) (cs15 := cs15) (cs16 := cs16) (cs17 := cs17) (ts0 := x0) (ts1 := x1) (ts2 := x2)
  · exact early0 (cs := _) (ts := _) (issued := issued) (e := e) (later := later) (ay := ay) (ny := ny) (su := su) (w := w) (HS_cs := ⟨rfl⟩) (HS_ts := ⟨rfl⟩) (H22 := ⟨is_ cs0 cs1 cs2 cs3 cs4 cs5 cs6 cs7 cs8 cs9 cs10 cs11 cs12 cs13 cs14 cs15 cs16 cs17 (decide_eq_false ok)⟩) (cs0 := cs0) (cs1 := cs1) (cs2 := cs2) (cs3 := cs3) (cs4 := cs4) (cs5 := cs5) (cs6 := cs6) (cs7 := cs7) (cs8 := cs8) (cs9 := cs9) (cs10 := cs10) (cs11 := cs11) (cs12 := cs12) (cs13 := cs13) (cs14 := cs14) (cs15 := cs15) (cs16 := cs16) (cs17 := cs17) (ts0 := x0) (ts1 := x1) (ts2 := x2)

end Go.Proofs.Ytpnjddolboahoaa.WalkTrackMore
