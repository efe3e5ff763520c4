/- Of any curve whether it may be, its threshold anywhere, and when it is as low, as the reference tells them: the law answers true at every curve and numbers. -/
import Derived.Test.YtpnjddolboahoaaPPerDelaysx2
import Derived.Test.YtpnjddolboahoaaDelays
namespace Go.Proofs.Ytpnjddolboahoaa.WalkPerCurves
open Go.RowKit Go.Proofs.YtpnjddolboahoaaW.PrintWords Go.Proofs.YtpnjddolboahoaaW.PrintLast Go.Proofs.YtpnjddolboahoaaW.PrintMore Go.Proofs.Ytpnjddolboahoaa.Math Go.Proofs.Ytpnjddolboahoaa.Q
attribute [local go_sem] max2_int min2_int max_two min_two
set_option linter.unusedVariables false
set_option linter.unusedSimpArgs false

theorem info23 : (Try.prog.info? 23).map (·.size) = some 5 := by kernel_rfl
theorem info25 : (Try.prog.info? 25).map (·.size) = some 18 := by kernel_rfl
theorem info29 : (Try.prog.info? 29).map (·.size) = some 3 := by kernel_rfl
theorem cmp_ {a b : Int} {w : World} (h : a = b) : Result.ok (Next.value (.bool (a == b))) w = Result.ok (Next.value (.bool true)) w := by rw [beq_iff_eq.mpr h]
theorem cmpd_ {p : Prop} [Decidable p] {w : World} (h : p) : Result.ok (Next.value (.bool (decide p))) w = Result.ok (Next.value (.bool true)) w := by rw [decide_eq_true h]
theorem cmpf_ {p : Prop} [Decidable p] {w : World} (h : ¬ p) : Result.ok (Next.value (.bool (decide p))) w = Result.ok (Next.value (.bool false)) w := by rw [decide_eq_false h]

set_option maxHeartbeats 4000000 in
set_option maxRecDepth 100000 in
theorem no (cs : Array Value) (x : Int) (y : Int) (k a b c d : Int)  (w : World) (HS_cs : Aside0 (cs.size = 5))
    (H36 : Aside0 (Rets Try.prog 36 #[.agg cs] (.bool false)))
    (H38 : Aside0 (Rets Try.prog 38 #[.agg cs] (.bool false)))
    (H35 : Aside0 (Rets Try.prog 35 #[] (.bool true))) :
    Calls Try.prog 19 #[.agg cs, .int .i64 x, .int .i64 y] w fun e w' => e = .returned (.bool true) ∧ Below w.heap.size w w' := by
  have HCl : Aside0 (Cls w ((w.heap.size, cs, 23) :: []) (w.alloc (.cells cs 23 (0, 0)))) := ⟨(Cls.start w).put _ _⟩
  go_enter Try.func19, Try.ntmps19
  go_upto_region 1 with (fail)
  refine wregion_p (C := Cls w ((w.heap.size, cs, 23) :: [])) (HCl.out) ?_
  refine wstep (N := some 7) (v := .agg cs) (a' := ?_) rfl (by rfl) (fun w' h => load_row (h.blk0) rfl rfl Try.underlying23 rfl (by rw [HS_cs.out]; exact info23)) ?_ ?_
  rotate_left
  · simp only [Act.put, List.setIfInBounds_toArray, List.set_cons_zero, List.set_cons_succ]
    rfl
  refine wcall (N := some 8) (a' := ?_) (f := 36) Try.func36 (by kernel_rfl) rfl #[.agg cs] (by rfl) rfl rfl (by (try simp only [List.map_toArray, List.map_cons, List.map_nil]); first | done | rfl) (qcall_cls (v := .bool false) H36.out) ?_ ?_
  rotate_left
  · simp only [Act.put, List.setIfInBounds_toArray, List.set_cons_zero, List.set_cons_succ]
    rfl
  refine wstep (N := some 9) (v := .bool true) (a' := ?_) rfl (by rfl) (fun w' _ => by go_simp) ?_ ?_
  rotate_left
  · simp only [Act.put, List.setIfInBounds_toArray, List.set_cons_zero, List.set_cons_succ]
    rfl
  refine wnil ?_
  intro w_h1 h1_
  have h1 := Aside0.mk h1_
  clear h1_
  go_upto_region 2 with (fail)
  refine wregion_p (C := Cls w ((w.heap.size, cs, 23) :: [])) (h1.out) ?_
  refine wstep (N := some 10) (v := .agg cs) (a' := ?_) rfl (by rfl) (fun w' h => load_row (h.blk0) rfl rfl Try.underlying23 rfl (by rw [HS_cs.out]; exact info23)) ?_ ?_
  rotate_left
  · simp only [Act.put, List.setIfInBounds_toArray, List.set_cons_zero, List.set_cons_succ]
    rfl
  refine wcall (N := some 11) (a' := ?_) (f := 38) Try.func38 (by kernel_rfl) rfl #[.agg cs] (by rfl) rfl rfl (by (try simp only [List.map_toArray, List.map_cons, List.map_nil]); first | done | rfl) (qcall_cls (v := .bool false) H38.out) ?_ ?_
  rotate_left
  · simp only [Act.put, List.setIfInBounds_toArray, List.set_cons_zero, List.set_cons_succ]
    rfl
  refine wstep (N := some 12) (v := .bool true) (a' := ?_) rfl (by rfl) (fun w' _ => by go_simp) ?_ ?_
  rotate_left
  · simp only [Act.put, List.setIfInBounds_toArray, List.set_cons_zero, List.set_cons_succ]
    rfl
  refine wstep (N := some 13) (v := .bool true) (a' := ?_) rfl (by rfl) (fun w' _ => by go_simp) ?_ ?_
  rotate_left
  · simp only [Act.put, List.setIfInBounds_toArray, List.set_cons_zero, List.set_cons_succ]
    rfl
  refine wcall (N := some 14) (a' := ?_) (f := 35) Try.func35 (by kernel_rfl) rfl #[] (by rfl) rfl rfl (by (try simp only [List.map_toArray, List.map_cons, List.map_nil]); first | done | rfl) (qcall_cls (v := .bool true) H35.out) ?_ ?_
  rotate_left
  · simp only [Act.put, List.setIfInBounds_toArray, List.set_cons_zero, List.set_cons_succ]
    rfl
  refine wstep (N := some 15) (v := .bool true) (a' := ?_) rfl (by rfl) (fun w' _ => by go_simp) ?_ ?_
  rotate_left
  · simp only [Act.put, List.setIfInBounds_toArray, List.set_cons_zero, List.set_cons_succ]
    rfl
  refine wstep (N := some 6) (v := .bool true) (a' := ?_) rfl (by rfl) (fun w' _ => by go_simp) ?_ ?_
  rotate_left
  · simp only [Act.put, List.setIfInBounds_toArray, List.set_cons_zero, List.set_cons_succ]
    rfl
  refine wnil ?_
  intro w_h2 h2_
  have h2 := Aside0.mk h2_
  clear h2_
  go_wp2
  go_ret
  exact ⟨rfl, h2.out.below⟩

set_option maxHeartbeats 4000000 in
set_option maxRecDepth 100000 in
theorem yes (cs : Array Value) (x : Int) (y : Int) (k a b c d : Int) (va vd : Int) (w : World) (HS_cs : Aside0 (cs.size = 5))
    (H36 : Aside0 (Rets Try.prog 36 #[.agg cs] (.bool true)))
    (H38 : Aside0 (Rets Try.prog 38 #[.agg cs] (.bool true)))
    (H35 : Aside0 (Rets Try.prog 35 #[] (.bool true)))
    (H37 : Aside0 (Rets Try.prog 37 #[.agg cs, .int .i64 x] (.int .i64 va)))
    (H29 : Aside0 (Rets Try.prog 29 #[.agg cs, .int .i64 x] (.int .i64 va)))
    (H39 : Aside0 (Rets Try.prog 39 #[.agg cs, .int .i64 y] (.int .i64 vd)))
    (H40 : Aside0 (Rets Try.prog 40 #[.agg cs, .int .i64 y] (.int .i64 vd))) :
    Calls Try.prog 19 #[.agg cs, .int .i64 x, .int .i64 y] w fun e w' => e = .returned (.bool true) ∧ Below w.heap.size w w' := by
  have HCl : Aside0 (Cls w ((w.heap.size, cs, 23) :: []) (w.alloc (.cells cs 23 (0, 0)))) := ⟨(Cls.start w).put _ _⟩
  go_enter Try.func19, Try.ntmps19
  go_upto_region 1 with (fail)
  refine wregion_p (C := Cls w ((w.heap.size, cs, 23) :: [])) (HCl.out) ?_
  refine wstep (N := some 7) (v := .agg cs) (a' := ?_) rfl (by rfl) (fun w' h => load_row (h.blk0) rfl rfl Try.underlying23 rfl (by rw [HS_cs.out]; exact info23)) ?_ ?_
  rotate_left
  · simp only [Act.put, List.setIfInBounds_toArray, List.set_cons_zero, List.set_cons_succ]
    rfl
  refine wcall (N := some 8) (a' := ?_) (f := 36) Try.func36 (by kernel_rfl) rfl #[.agg cs] (by rfl) rfl rfl (by (try simp only [List.map_toArray, List.map_cons, List.map_nil]); first | done | rfl) (qcall_cls (v := .bool true) H36.out) ?_ ?_
  rotate_left
  · simp only [Act.put, List.setIfInBounds_toArray, List.set_cons_zero, List.set_cons_succ]
    rfl
  refine wstep (N := some 9) (v := .bool false) (a' := ?_) rfl (by rfl) (fun w' _ => by go_simp) ?_ ?_
  rotate_left
  · simp only [Act.put, List.setIfInBounds_toArray, List.set_cons_zero, List.set_cons_succ]
    rfl
  refine wnil ?_
  intro w_h1 h1_
  have h1 := Aside0.mk h1_
  clear h1_
  go_upto_region 3 with (fail)
  refine wregion_q (C := Cls w ((w.heap.size, cs, 23) :: [])) (by kernel_rfl) (by kernel_rfl) (h1.out.drew) ?_
  refine wstep (N := some 16) (v := .agg cs) (a' := ?_) rfl (by rfl) (fun w' h => load_row (h.blk0) rfl rfl Try.underlying23 rfl (by rw [HS_cs.out]; exact info23)) ?_ ?_
  rotate_left
  · simp only [Act.put, List.setIfInBounds_toArray, List.set_cons_zero, List.set_cons_succ]
    rfl
  refine wcall (N := some 17) (a' := ?_) (f := 38) Try.func38 (by kernel_rfl) rfl #[.agg cs] (by rfl) rfl rfl (by (try simp only [List.map_toArray, List.map_cons, List.map_nil]); first | done | rfl) (qcall_cls (v := .bool true) H38.out) ?_ ?_
  rotate_left
  · simp only [Act.put, List.setIfInBounds_toArray, List.set_cons_zero, List.set_cons_succ]
    rfl
  refine wstep (N := some 18) (v := .bool true) (a' := ?_) rfl (by rfl) (fun w' _ => by go_simp) ?_ ?_
  rotate_left
  · simp only [Act.put, List.setIfInBounds_toArray, List.set_cons_zero, List.set_cons_succ]
    rfl
  refine wstep (N := some 19) (v := .agg cs) (a' := ?_) rfl (by rfl) (fun w' h => load_row (h.blk0) rfl rfl Try.underlying23 rfl (by rw [HS_cs.out]; exact info23)) ?_ ?_
  rotate_left
  · simp only [Act.put, List.setIfInBounds_toArray, List.set_cons_zero, List.set_cons_succ]
    rfl
  refine wstep (N := some 20) (v := .int .i64 x) (a' := ?_) rfl (by rfl) (fun w' _ => by go_simp) ?_ ?_
  rotate_left
  · simp only [Act.put, List.setIfInBounds_toArray, List.set_cons_zero, List.set_cons_succ]
    rfl
  refine wcall (N := some 21) (a' := ?_) (f := 37) Try.func37 (by kernel_rfl) rfl #[.agg cs, .int .i64 x] (by rfl) rfl rfl (by (try simp only [List.map_toArray, List.map_cons, List.map_nil]); first | done | rfl) (qcall_cls (v := .int .i64 va) H37.out) ?_ ?_
  rotate_left
  · simp only [Act.put, List.setIfInBounds_toArray, List.set_cons_zero, List.set_cons_succ]
    rfl
  refine wstep (N := some 22) (v := .agg cs) (a' := ?_) rfl (by rfl) (fun w' h => load_row (h.blk0) rfl rfl Try.underlying23 rfl (by rw [HS_cs.out]; exact info23)) ?_ ?_
  rotate_left
  · simp only [Act.put, List.setIfInBounds_toArray, List.set_cons_zero, List.set_cons_succ]
    rfl
  refine wstep (N := some 23) (v := .int .i64 x) (a' := ?_) rfl (by rfl) (fun w' _ => by go_simp) ?_ ?_
  rotate_left
  · simp only [Act.put, List.setIfInBounds_toArray, List.set_cons_zero, List.set_cons_succ]
    rfl
  refine wcall (N := some 24) (a' := ?_) (f := 29) Try.func29 (by kernel_rfl) rfl #[.agg cs, .int .i64 x] (by rfl) rfl rfl (by (try simp only [List.map_toArray, List.map_cons, List.map_nil]); first | done | rfl) (qcall_cls (v := .int .i64 va) H29.out) ?_ ?_
  rotate_left
  · simp only [Act.put, List.setIfInBounds_toArray, List.set_cons_zero, List.set_cons_succ]
    rfl
  refine wstep (N := some 25) (v := .bool true) (a' := ?_) rfl (by rfl) (fun w' _ => by go_simp) ?_ ?_
  rotate_left
  · simp only [Act.put, List.setIfInBounds_toArray, List.set_cons_zero, List.set_cons_succ]
    rfl
  refine wstep (N := some 26) (v := .bool true) (a' := ?_) rfl (by rfl) (fun w' _ => by go_simp) ?_ ?_
  rotate_left
  · simp only [Act.put, List.setIfInBounds_toArray, List.set_cons_zero, List.set_cons_succ]
    rfl
  refine wstep (N := some 27) (v := .bool true) (a' := ?_) rfl (by rfl) (fun w' _ => by go_simp) ?_ ?_
  rotate_left
  · simp only [Act.put, List.setIfInBounds_toArray, List.set_cons_zero, List.set_cons_succ]
    rfl
  refine wstep (N := some 28) (v := .agg cs) (a' := ?_) rfl (by rfl) (fun w' h => load_row (h.blk0) rfl rfl Try.underlying23 rfl (by rw [HS_cs.out]; exact info23)) ?_ ?_
  rotate_left
  · simp only [Act.put, List.setIfInBounds_toArray, List.set_cons_zero, List.set_cons_succ]
    rfl
  refine wstep (N := some 29) (v := .int .i64 y) (a' := ?_) rfl (by rfl) (fun w' _ => by go_simp) ?_ ?_
  rotate_left
  · simp only [Act.put, List.setIfInBounds_toArray, List.set_cons_zero, List.set_cons_succ]
    rfl
  refine wcall (N := some 30) (a' := ?_) (f := 39) Try.func39 (by kernel_rfl) rfl #[.agg cs, .int .i64 y] (by rfl) rfl rfl (by (try simp only [List.map_toArray, List.map_cons, List.map_nil]); first | done | rfl) (qcall_cls (v := .int .i64 vd) H39.out) ?_ ?_
  rotate_left
  · simp only [Act.put, List.setIfInBounds_toArray, List.set_cons_zero, List.set_cons_succ]
    rfl
  refine wstep (N := some 31) (v := .agg cs) (a' := ?_) rfl (by rfl) (fun w' h => load_row (h.blk0) rfl rfl Try.underlying23 rfl (by rw [HS_cs.out]; exact info23)) ?_ ?_
  rotate_left
  · simp only [Act.put, List.setIfInBounds_toArray, List.set_cons_zero, List.set_cons_succ]
    rfl
  refine wstep (N := some 32) (v := .int .i64 y) (a' := ?_) rfl (by rfl) (fun w' _ => by go_simp) ?_ ?_
  rotate_left
  · simp only [Act.put, List.setIfInBounds_toArray, List.set_cons_zero, List.set_cons_succ]
    rfl
  refine wcall (N := some 33) (a' := ?_) (f := 40) Try.func40 (by kernel_rfl) rfl #[.agg cs, .int .i64 y] (by rfl) rfl rfl (by (try simp only [List.map_toArray, List.map_cons, List.map_nil]); first | done | rfl) (qcall_cls (v := .int .i64 vd) H40.out) ?_ ?_
  rotate_left
  · simp only [Act.put, List.setIfInBounds_toArray, List.set_cons_zero, List.set_cons_succ]
    rfl
  refine wstep (N := some 34) (v := .bool true) (a' := ?_) rfl (by rfl) (fun w' _ => by go_simp) ?_ ?_
  rotate_left
  · simp only [Act.put, List.setIfInBounds_toArray, List.set_cons_zero, List.set_cons_succ]
    rfl
  refine wstep (N := some 35) (v := .bool true) (a' := ?_) rfl (by rfl) (fun w' _ => by go_simp) ?_ ?_
  rotate_left
  · simp only [Act.put, List.setIfInBounds_toArray, List.set_cons_zero, List.set_cons_succ]
    rfl
  refine wstep (N := some 36) (v := .bool true) (a' := ?_) rfl (by rfl) (fun w' _ => by go_simp) ?_ ?_
  rotate_left
  · simp only [Act.put, List.setIfInBounds_toArray, List.set_cons_zero, List.set_cons_succ]
    rfl
  refine wcall (N := some 37) (a' := ?_) (f := 35) Try.func35 (by kernel_rfl) rfl #[] (by rfl) rfl rfl (by (try simp only [List.map_toArray, List.map_cons, List.map_nil]); first | done | rfl) (qcall_cls (v := .bool true) H35.out) ?_ ?_
  rotate_left
  · simp only [Act.put, List.setIfInBounds_toArray, List.set_cons_zero, List.set_cons_succ]
    rfl
  refine wstep (N := some 38) (v := .bool true) (a' := ?_) rfl (by rfl) (fun w' _ => by go_simp) ?_ ?_
  rotate_left
  · simp only [Act.put, List.setIfInBounds_toArray, List.set_cons_zero, List.set_cons_succ]
    rfl
  refine wstep (N := some 6) (v := .bool true) (a' := ?_) rfl (by rfl) (fun w' _ => by go_simp) ?_ ?_
  rotate_left
  · simp only [Act.put, List.setIfInBounds_toArray, List.set_cons_zero, List.set_cons_succ]
    rfl
  refine wnil ?_
  intro w_h3 h3_
  have h3 := Aside0.mk h3_
  clear h3_
  go_wp2
  go_ret
  exact ⟨rfl, h3.out.below⟩


theorem erIs : PPerDelays.althingref4_Is.f = rIs := rfl
theorem eAt : PPerDelays.per_At.f = pAt := rfl
theorem epIs (n : Nat) : PPerDelays.per_Is.f (n + 1) = pIs (n + 1) := rfl
theorem known_ok (k : Nat) : PPerDelays.althinglaw4_known.f (k + 1) = some true := by kernel_rfl
theorem ref_is (k a b c d : Int) {r : Bool} (h : decide (okCurve k a b c d) = r) : Rets Try.prog 36 #[.agg #[.int .i64 k, .int .i64 a, .int .i64 b, .int .i64 c, .int .i64 d]] (.bool r) := fun w => by
  refine (PPerDelays.althingref4_Is.calls k a b c d r w ?_).mono fun _ _ h => h
  rw [erIs, rIs_eq, h]
theorem per_is (k a b c d : Int) {r : Bool} (h : decide (okCurve k a b c d) = r) : Rets Try.prog 38 #[.agg #[.int .i64 k, .int .i64 a, .int .i64 b, .int .i64 c, .int .i64 d]] (.bool r) := fun w => by
  refine (PPerDelays.per_Is.calls 1 k a b c d r w ?_).mono fun _ _ h => h
  rw [epIs, pIs_eq, h]
theorem known_ : Rets Try.prog 35 #[] (.bool true) := fun w => (PPerDelays.althinglaw4_known.calls 1 true w (known_ok 0)).mono fun _ _ h => h
theorem per_at (k a b c d x : Int) (ok : okCurve k a b c d) : Rets Try.prog 37 #[.agg #[.int .i64 k, .int .i64 a, .int .i64 b, .int .i64 c, .int .i64 d], .int .i64 x] (.int .i64 (C k a b c d (hold x))) := fun w =>
  (PPerDelays.per_At.calls k a b c d x _ w (by rw [eAt]; exact at_eq x ok)).mono fun _ _ h => h
theorem delay_of (k a b c d y : Int) (ok : okCurve k a b c d) : Rets Try.prog 39 #[.agg #[.int .i64 k, .int .i64 a, .int .i64 b, .int .i64 c, .int .i64 d], .int .i64 y] (.int .i64 (bsN (Delays.low k a b c d y) 31 0 1000000000)) :=
  Delays.delay_ _ k a b c d y ⟨rfl⟩ ⟨fun x => per_at k a b c d x ok⟩

theorem walk (k a b c d x y : Int) (w : World) (_ : (Lit.int .i64 k).wf = true ∧ (Lit.int .i64 a).wf = true ∧ (Lit.int .i64 b).wf = true ∧ (Lit.int .i64 c).wf = true ∧ (Lit.int .i64 d).wf = true) (_ : (Lit.int .i64 x).wf = true) (_ : (Lit.int .i64 y).wf = true) :
    Calls Try.prog 19 #[.agg #[.int .i64 k, .int .i64 a, .int .i64 b, .int .i64 c, .int .i64 d], .int .i64 x, .int .i64 y] w fun e w' => e = .returned (.bool true) ∧ Below w.heap.size w w' := by
  by_cases ok : okCurve k a b c d
  · exact yes (cs := _) (x := x) (y := y) (w := w) (k := k) (a := a) (b := b) (c := c) (d := d) (HS_cs := ⟨rfl⟩) (H36 := ⟨ref_is k a b c d (decide_eq_true ok)⟩) (H38 := ⟨per_is k a b c d (decide_eq_true ok)⟩) (H35 := ⟨known_⟩)
      (H37 := ⟨per_at k a b c d x ok⟩) (H29 := ⟨RefAt.at_ k a b c d x ok⟩) (H39 := ⟨delay_of k a b c d y ok⟩) (H40 := ⟨Delays.rdelay_ _ k a b c d y ⟨rfl⟩ ⟨fun x => RefAt.at_ k a b c d x ok⟩⟩)
  · exact no (cs := _) (x := x) (y := y) (w := w) (k := k) (a := a) (b := b) (c := c) (d := d) (HS_cs := ⟨rfl⟩) (H36 := ⟨ref_is k a b c d (decide_eq_false ok)⟩) (H38 := ⟨per_is k a b c d (decide_eq_false ok)⟩) (H35 := ⟨known_⟩)

end Go.Proofs.Ytpnjddolboahoaa.WalkPerCurves
