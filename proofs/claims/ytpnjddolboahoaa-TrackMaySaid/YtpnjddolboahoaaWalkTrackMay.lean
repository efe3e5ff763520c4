/- Of any track the program and the reference tell alike whether it may be: the law answers true at every track. -/
import Derived.Test.YtpnjddolboahoaaPTrackMayx2
import Derived.Test.YtpnjddolboahoaaMathTrack
import Derived.Test.YtpnjddolboahoaaQ
namespace Go.Proofs.Ytpnjddolboahoaa.WalkTrackMay
open Go.RowKit Go.Proofs.YtpnjddolboahoaaW.PrintWords Go.Proofs.YtpnjddolboahoaaW.PrintLast Go.Proofs.YtpnjddolboahoaaW.PrintMore Go.Proofs.Ytpnjddolboahoaa.Math Go.Proofs.Ytpnjddolboahoaa.Q
attribute [local go_sem] max2_int min2_int max_two min_two
set_option linter.unusedVariables false
set_option linter.unusedSimpArgs false

theorem info23 : (Try.prog.info? 23).map (·.size) = some 5 := by kernel_rfl
theorem info25 : (Try.prog.info? 25).map (·.size) = some 18 := by kernel_rfl
theorem info29 : (Try.prog.info? 29).map (·.size) = some 3 := by kernel_rfl
theorem cmp_ {a b : Int} {w : World} (h : a = b) : Result.ok (Next.value (.bool (a == b))) w = Result.ok (Next.value (.bool true)) w := by rw [beq_iff_eq.mpr h]
theorem cmpd_ {p : Prop} [Decidable p] {w : World} (h : p) : Result.ok (Next.value (.bool (decide p))) w = Result.ok (Next.value (.bool true)) w := by rw [decide_eq_true h]
theorem cmpf_ {p : Prop} [Decidable p] {w : World} (h : ¬ p) : Result.ok (Next.value (.bool (decide p))) w = Result.ok (Next.value (.bool false)) w := by rw [decide_eq_false h]

set_option maxHeartbeats 4000000 in
set_option maxRecDepth 100000 in
theorem main (cs : Array Value) (cs0 cs1 cs2 cs3 cs4 cs5 cs6 cs7 cs8 cs9 cs10 cs11 cs12 cs13 cs14 cs15 cs16 cs17 : Int) (r : Bool) (w : World) (HS_cs : Aside0 (cs.size = 18))
    (H21 : Aside0 (Rets Try.prog 21 #[.agg cs] (.bool r)))
    (H22 : Aside0 (Rets Try.prog 22 #[.agg cs] (.bool r)))
    (H23 : Aside0 (Rets Try.prog 23 #[] (.bool true))) :
    Calls Try.prog 3 #[.agg cs] w fun e w' => e = .returned (.bool true) ∧ Below w.heap.size w w' := by
  have HCl : Aside0 (Cls w ((w.heap.size, cs, 25) :: []) (w.alloc (.cells cs 25 (0, 0)))) := ⟨(Cls.start w).put _ _⟩
  go_enter Try.func3, Try.ntmps3
  go_upto_region 1 with (fail)
  refine region_q (C := Cls w ((w.heap.size, cs, 25) :: [])) (by kernel_rfl) (by kernel_rfl) (HCl.out.drew) ?_
  refine qstep (N := some 3) (v := .agg cs) (a' := ?_) rfl (by rfl) (fun w' h => load_row (h.blk0) rfl rfl Try.underlying25 rfl (by rw [HS_cs.out]; exact info25)) ?_ ?_
  rotate_left
  · simp only [Act.put, List.setIfInBounds_toArray, List.set_cons_zero, List.set_cons_succ]
    rfl
  refine qcall (N := some 4) (a' := ?_) (f := 21) Try.func21 (by kernel_rfl) rfl #[.agg cs] (by rfl) rfl rfl (by (try simp only [List.map_toArray, List.map_cons, List.map_nil]); first | done | rfl) (qcall_cls (v := .bool r) H21.out) ?_ ?_
  rotate_left
  · simp only [Act.put, List.setIfInBounds_toArray, List.set_cons_zero, List.set_cons_succ]
    rfl
  refine qstep (N := some 5) (v := .agg cs) (a' := ?_) rfl (by rfl) (fun w' h => load_row (h.blk0) rfl rfl Try.underlying25 rfl (by rw [HS_cs.out]; exact info25)) ?_ ?_
  rotate_left
  · simp only [Act.put, List.setIfInBounds_toArray, List.set_cons_zero, List.set_cons_succ]
    rfl
  refine qcall (N := some 6) (a' := ?_) (f := 22) Try.func22 (by kernel_rfl) rfl #[.agg cs] (by rfl) rfl rfl (by (try simp only [List.map_toArray, List.map_cons, List.map_nil]); first | done | rfl) (qcall_cls (v := .bool r) H22.out) ?_ ?_
  rotate_left
  · simp only [Act.put, List.setIfInBounds_toArray, List.set_cons_zero, List.set_cons_succ]
    rfl
  refine qstep (N := some 7) (v := .bool true) (a' := ?_) rfl (by rfl) (fun w' _ => by go_simp) ?_ ?_
  rotate_left
  · simp only [Act.put, List.setIfInBounds_toArray, List.set_cons_zero, List.set_cons_succ]
    rfl
  refine qstep (N := some 8) (v := .bool true) (a' := ?_) rfl (by rfl) (fun w' _ => by go_simp) ?_ ?_
  rotate_left
  · simp only [Act.put, List.setIfInBounds_toArray, List.set_cons_zero, List.set_cons_succ]
    rfl
  refine qcall (N := some 9) (a' := ?_) (f := 23) Try.func23 (by kernel_rfl) rfl #[] (by rfl) rfl rfl (by (try simp only [List.map_toArray, List.map_cons, List.map_nil]); first | done | rfl) (qcall_cls (v := .bool true) H23.out) ?_ ?_
  rotate_left
  · simp only [Act.put, List.setIfInBounds_toArray, List.set_cons_zero, List.set_cons_succ]
    rfl
  refine qstep (N := some 10) (v := .bool true) (a' := ?_) rfl (by rfl) (fun w' _ => by go_simp) ?_ ?_
  rotate_left
  · simp only [Act.put, List.setIfInBounds_toArray, List.set_cons_zero, List.set_cons_succ]
    rfl
  refine qstep (N := some 2) (v := .bool true) (a' := ?_) rfl (by rfl) (fun w' _ => by go_simp) ?_ ?_
  rotate_left
  · simp only [Act.put, List.setIfInBounds_toArray, List.set_cons_zero, List.set_cons_succ]
    rfl
  refine wpQuiet_nil ?_
  intro w_ h1_
  have h1 := Aside0.mk h1_
  clear h1_
  go_wp2
  go_ret
  exact ⟨rfl, h1.out.below⟩

theorem erTI : PTrackMay.althingref10_Is.f = rTrackIs := rfl
theorem epTI (k : Nat) : PTrackMay.track_Is.f (k + 1) = pTrackIs (k + 1) := rfl
theorem known_ok : PTrackMay.althinglaw10_known.f = some true := by kernel_rfl
theorem walk (cs0 cs1 cs2 cs3 cs4 cs5 cs6 cs7 cs8 cs9 cs10 cs11 cs12 cs13 cs14 cs15 cs16 cs17 : Int) (w : World) :
    Calls Try.prog 3 #[.agg #[.int .i64 cs0, .int .i64 cs1, .int .i64 cs2, .int .i64 cs3, .int .i64 cs4, .int .i64 cs5, .int .i64 cs6, .int .i64 cs7, .int .i64 cs8, .int .i64 cs9, .int .i64 cs10, .int .i64 cs11, .int .i64 cs12, .int .i64 cs13, .int .i64 cs14, .int .i64 cs15, .int .i64 cs16, .int .i64 cs17]] w fun e w' => e = .returned (.bool true) ∧ Below w.heap.size w w' :=
  main (cs := _) (w := w) (r := decide (okTrack cs0 cs1 cs2 cs3 cs4 cs5 cs6 cs7 cs8 cs9 cs10 cs11 cs12 cs13 cs14 cs15 cs16 cs17)) (HS_cs := ⟨rfl⟩) (cs0 := cs0) (cs1 := cs1) (cs2 := cs2) (cs3 := cs3) (cs4 := cs4) (cs5 := cs5) (cs6 := cs6) (cs7 := cs7) (cs8 := cs8) (cs9 := cs9) (cs10 := cs10) (cs11 := cs11) (cs12 := cs12) (cs13 := cs13) (cs14 := cs14) (cs15 := cs15) (cs16 := cs16) (cs17 := cs17)
    (H21 := ⟨fun w => (PTrackMay.track_Is.calls 1 cs0 cs1 cs2 cs3 cs4 cs5 cs6 cs7 cs8 cs9 cs10 cs11 cs12 cs13 cs14 cs15 cs16 cs17 _ w (by rw [epTI, pTrackIs_eq])).mono fun _ _ h => h⟩)
    (H22 := ⟨fun w => (PTrackMay.althingref10_Is.calls cs0 cs1 cs2 cs3 cs4 cs5 cs6 cs7 cs8 cs9 cs10 cs11 cs12 cs13 cs14 cs15 cs16 cs17 _ w (by rw [erTI, rTrackIs_eq])).mono fun _ _ h => h⟩)
    (H23 := ⟨fun w => (PTrackMay.althinglaw10_known.calls true w known_ok).mono fun _ _ h => h⟩)

end Go.Proofs.Ytpnjddolboahoaa.WalkTrackMay
