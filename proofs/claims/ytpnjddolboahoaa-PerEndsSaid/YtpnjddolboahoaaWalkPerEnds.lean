/- The law's function on a curve: one walk for each kind. -/
import Derived.Test.YtpnjddolboahoaaPPerEndsx2
import Derived.Test.YtpnjddolboahoaaMathIs
import Derived.Test.YtpnjddolboahoaaQ
namespace Go.Proofs.Ytpnjddolboahoaa.WalkPerEnds
open Go.RowKit Go.Proofs.YtpnjddolboahoaaW.PrintWords Go.Proofs.YtpnjddolboahoaaW.PrintLast Go.Proofs.YtpnjddolboahoaaW.PrintMore Go.Proofs.Ytpnjddolboahoaa.Math Go.Proofs.Ytpnjddolboahoaa.Q
attribute [local go_sem] max2_int min2_int max_two min_two
set_option linter.unusedVariables false
set_option linter.unusedSimpArgs false

theorem info23 : (Try.prog.info? 23).map (·.size) = some 5 := by kernel_rfl
theorem cmp_ {a b : Int} {w : World} (h : a = b) : Result.ok (Next.value (.bool (a == b))) w = Result.ok (Next.value (.bool true)) w := by rw [beq_iff_eq.mpr h]
theorem cmpd_ {p : Prop} [Decidable p] {w : World} (h : p) : Result.ok (Next.value (.bool (decide p))) w = Result.ok (Next.value (.bool true)) w := by rw [decide_eq_true h]

set_option maxHeartbeats 4000000 in
set_option maxRecDepth 100000 in
theorem walk0 (w : World) (cs : Array Value) (HS_cs : Aside0 (cs.size = 5)) (H0 : Aside0 (Rets Try.prog 36 #[.agg cs] (.bool false))) :
    Calls Try.prog 14 #[.agg cs] w fun e w' => e = .returned (.bool true) ∧ Below w.heap.size w w' := by
  have HCl : Aside0 (Cls w ((w.heap.size, cs, 23) :: []) (w.alloc (.cells cs 23 (0, 0)))) := ⟨(Cls.start w).put cs 23⟩
  go_enter Try.func14, Try.ntmps14
  go_upto_region 1 with (fail)
  refine region_p (C := Cls w ((w.heap.size, cs, 23) :: [])) (HCl.out) ?_
  refine qstep (N := some 5) (v := .agg cs) (a' := ?_) rfl (by rfl) (fun w' h => load_row (h.blk0) rfl rfl Try.underlying23 rfl (by rw [HS_cs.out]; exact info23)) ?_ ?_
  rotate_left
  · simp only [Act.put, List.setIfInBounds_toArray, List.set_cons_zero, List.set_cons_succ]
    rfl
  refine qcall (N := some 6) (a' := ?_) (f := 36) Try.func36 (by kernel_rfl) rfl #[.agg cs] (by rfl) rfl rfl (by (try simp only [List.map_toArray, List.map_cons, List.map_nil]); first | done | rfl) (qcall_cls (v := .bool false) H0.out) ?_ ?_
  rotate_left
  · simp only [Act.put, List.setIfInBounds_toArray, List.set_cons_zero, List.set_cons_succ]
    rfl
  refine qstep (N := some 7) (v := .bool true) (a' := ?_) rfl (by rfl) (fun w' _ => by go_simp) ?_ ?_
  rotate_left
  · simp only [Act.put, List.setIfInBounds_toArray, List.set_cons_zero, List.set_cons_succ]
    rfl
  refine wpQuiet_nil ?_
  intro w_ h1_
  have h1 := Aside0.mk h1_
  clear h1_
  go_wp2
  go_ret
  exact ⟨rfl, h1.out.below⟩

set_option maxHeartbeats 4000000 in
set_option maxRecDepth 100000 in
theorem walk1 (k a b c d : Int) (w : World) (cs : Array Value) (HS_cs : Aside0 (cs.size = 5)) (hk : Aside0 (k = 1)) (HC_cs_0 : Aside0 (cs[0]? = some (.int .i64 k))) (HC_cs_1 : Aside0 (cs[1]? = some (.int .i64 a))) (HC_cs_2 : Aside0 (cs[2]? = some (.int .i64 b))) (HC_cs_3 : Aside0 (cs[3]? = some (.int .i64 c))) (HC_cs_4 : Aside0 (cs[4]? = some (.int .i64 d)))
    (H0 : Aside0 (Rets Try.prog 36 #[.agg cs] (.bool true))) (HA : Aside0 (∀ x, Rets Try.prog 37 #[.agg cs, .int .i64 x] (.int .i64 (C k a b c d (hold x))))) (HK : Aside0 (Rets Try.prog 35 #[] (.bool true)))
    (P0 : Aside0 (C k a b c d (hold 0) = a))
    (P1 : Aside0 (C k a b c d (hold 1000000000) = b))
    (P2 : Aside0 (C k a b c d (hold c) = b))
    (P3 : Aside0 (C k a b c d (hold (-5)) = C k a b c d (hold 0))) :
    Calls Try.prog 14 #[.agg cs] w fun e w' => e = .returned (.bool true) ∧ Below w.heap.size w w' := by
  have HCl : Aside0 (Cls w ((w.heap.size, cs, 23) :: []) (w.alloc (.cells cs 23 (0, 0)))) := ⟨(Cls.start w).put cs 23⟩
  go_enter Try.func14, Try.ntmps14
  go_upto_region 1 with (fail)
  refine region_p (C := Cls w ((w.heap.size, cs, 23) :: [])) (HCl.out) ?_
  refine qstep (N := some 5) (v := .agg cs) (a' := ?_) rfl (by rfl) (fun w' h => load_row (h.blk0) rfl rfl Try.underlying23 rfl (by rw [HS_cs.out]; exact info23)) ?_ ?_
  rotate_left
  · simp only [Act.put, List.setIfInBounds_toArray, List.set_cons_zero, List.set_cons_succ]
    rfl
  refine qcall (N := some 6) (a' := ?_) (f := 36) Try.func36 (by kernel_rfl) rfl #[.agg cs] (by rfl) rfl rfl (by (try simp only [List.map_toArray, List.map_cons, List.map_nil]); first | done | rfl) (qcall_cls (v := .bool true) H0.out) ?_ ?_
  rotate_left
  · simp only [Act.put, List.setIfInBounds_toArray, List.set_cons_zero, List.set_cons_succ]
    rfl
  refine qstep (N := some 7) (v := .bool false) (a' := ?_) rfl (by rfl) (fun w' _ => by go_simp) ?_ ?_
  rotate_left
  · simp only [Act.put, List.setIfInBounds_toArray, List.set_cons_zero, List.set_cons_succ]
    rfl
  refine wpQuiet_nil ?_
  intro w_ h1_
  have h1 := Aside0.mk h1_
  clear h1_
  go_upto_region 3 with (fail)
  refine region_q (C := Cls w ((w.heap.size, cs, 23) :: [])) (by kernel_rfl) (by kernel_rfl) (h1.out.drew) ?_
  refine qstep (N := some 8) (v := .agg cs) (a' := ?_) rfl (by rfl) (fun w' h => load_row (h.blk0) rfl rfl Try.underlying23 rfl (by rw [HS_cs.out]; exact info23)) ?_ ?_
  rotate_left
  · simp only [Act.put, List.setIfInBounds_toArray, List.set_cons_zero, List.set_cons_succ]
    rfl
  refine qcall (N := some 9) (a' := ?_) (f := 37) Try.func37 (by kernel_rfl) rfl #[.agg cs, .int .i64 0] (by rfl) rfl rfl (by (try simp only [List.map_toArray, List.map_cons, List.map_nil]); first | done | rfl) (qcall_cls (v := .int .i64 (C k a b c d (hold 0))) (HA.out 0)) ?_ ?_
  rotate_left
  · simp only [Act.put, List.setIfInBounds_toArray, List.set_cons_zero, List.set_cons_succ]
    rfl
  refine qstep (N := some 10) (v := .agg cs) (a' := ?_) rfl (by rfl) (fun w' h => load_row (h.blk0) rfl rfl Try.underlying23 rfl (by rw [HS_cs.out]; exact info23)) ?_ ?_
  rotate_left
  · simp only [Act.put, List.setIfInBounds_toArray, List.set_cons_zero, List.set_cons_succ]
    rfl
  refine qcall (N := some 11) (a' := ?_) (f := 37) Try.func37 (by kernel_rfl) rfl #[.agg cs, .int .i64 1000000000] (by rfl) rfl rfl (by (try simp only [List.map_toArray, List.map_cons, List.map_nil]); first | done | rfl) (qcall_cls (v := .int .i64 (C k a b c d (hold 1000000000))) (HA.out 1000000000)) ?_ ?_
  rotate_left
  · simp only [Act.put, List.setIfInBounds_toArray, List.set_cons_zero, List.set_cons_succ]
    rfl
  refine qstep (N := some 3) (v := .int .i64 (C k a b c d (hold 0))) (a' := ?_) rfl (by rfl) (fun w' _ => by go_simp) ?_ ?_
  rotate_left
  · simp only [Act.put, List.setIfInBounds_toArray, List.set_cons_zero, List.set_cons_succ]
    rfl
  refine qstep (N := some 4) (v := .int .i64 (C k a b c d (hold 1000000000))) (a' := ?_) rfl (by rfl) (fun w' _ => by go_simp) ?_ ?_
  rotate_left
  · simp only [Act.put, List.setIfInBounds_toArray, List.set_cons_zero, List.set_cons_succ]
    rfl
  refine wpQuiet_nil ?_
  intro w_ h3_
  have h3 := Aside0.mk h3_
  clear h3_
  go_upto_region 4 with (fail)
  refine region_p (C := Cls w ((w.heap.size, cs, 23) :: [])) (h3.out) ?_
  refine qstep (N := some 12) (v := .pointer (some ⟨w.heap.size, 0, none⟩)) (a' := ?_) rfl (by rfl) (fun w' _ => by go_simp) ?_ ?_
  rotate_left
  · simp only [Act.put, List.setIfInBounds_toArray, List.set_cons_zero, List.set_cons_succ]
    rfl
  refine qstep (N := some 13) (v := .int .i64 k) (a' := ?_) rfl (by rfl) (fun w' h => load_cell (h.blk0) HC_cs_0.out rfl rfl Try.underlying3 rfl) ?_ ?_
  rotate_left
  · simp only [Act.put, List.setIfInBounds_toArray, List.set_cons_zero, List.set_cons_succ]
    rfl
  refine wpQuiet_nil ?_
  intro w_ h4_
  have h4 := Aside0.mk h4_
  clear h4_
  go_upto_region 5 with (fail)
  refine region_p (C := Cls w ((w.heap.size, cs, 23) :: [])) (h4.out) ?_
  refine qstep (N := some 15) (v := .bool true) (a' := ?_) rfl (by rfl) (fun w' _ => by have h_ := hk.out; go_simp; first | done | (rw [h_]; done) | (rw [h_]; rfl) | (simp [h_]; done)) ?_ ?_
  rotate_left
  · simp only [Act.put, List.setIfInBounds_toArray, List.set_cons_zero, List.set_cons_succ]
    rfl
  refine qstep (N := some 14) (v := .bool true) (a' := ?_) rfl (by rfl) (fun w' _ => by go_simp) ?_ ?_
  rotate_left
  · simp only [Act.put, List.setIfInBounds_toArray, List.set_cons_zero, List.set_cons_succ]
    rfl
  refine wpQuiet_nil ?_
  intro w_ h5_
  have h5 := Aside0.mk h5_
  clear h5_
  go_upto_region 6 with (fail)
  refine region_q (C := Cls w ((w.heap.size, cs, 23) :: [])) (by kernel_rfl) (by kernel_rfl) (h5.out.drew) ?_
  refine qstep (N := some 16) (v := .int .i64 (C k a b c d (hold 0))) (a' := ?_) rfl (by rfl) (fun w' _ => by go_simp) ?_ ?_
  rotate_left
  · simp only [Act.put, List.setIfInBounds_toArray, List.set_cons_zero, List.set_cons_succ]
    rfl
  refine qstep (N := some 17) (v := .pointer (some ⟨w.heap.size, 1, none⟩)) (a' := ?_) rfl (by rfl) (fun w' _ => by go_simp) ?_ ?_
  rotate_left
  · simp only [Act.put, List.setIfInBounds_toArray, List.set_cons_zero, List.set_cons_succ]
    rfl
  refine qstep (N := some 18) (v := .int .i64 a) (a' := ?_) rfl (by rfl) (fun w' h => load_cell (h.blk0) HC_cs_1.out rfl rfl Try.underlying3 rfl) ?_ ?_
  rotate_left
  · simp only [Act.put, List.setIfInBounds_toArray, List.set_cons_zero, List.set_cons_succ]
    rfl
  refine qstep (N := some 19) (v := .bool true) (a' := ?_) rfl (by rfl) (fun w' _ => by go_simp; (try simp only [i64_w]); first | exact P0.out | exact cmp_ P0.out | exact cmpd_ P0.out) ?_ ?_
  rotate_left
  · simp only [Act.put, List.setIfInBounds_toArray, List.set_cons_zero, List.set_cons_succ]
    rfl
  refine qstep (N := some 20) (v := .bool true) (a' := ?_) rfl (by rfl) (fun w' _ => by go_simp) ?_ ?_
  rotate_left
  · simp only [Act.put, List.setIfInBounds_toArray, List.set_cons_zero, List.set_cons_succ]
    rfl
  refine qstep (N := some 21) (v := .int .i64 (C k a b c d (hold 1000000000))) (a' := ?_) rfl (by rfl) (fun w' _ => by go_simp) ?_ ?_
  rotate_left
  · simp only [Act.put, List.setIfInBounds_toArray, List.set_cons_zero, List.set_cons_succ]
    rfl
  refine qstep (N := some 22) (v := .pointer (some ⟨w.heap.size, 2, none⟩)) (a' := ?_) rfl (by rfl) (fun w' _ => by go_simp) ?_ ?_
  rotate_left
  · simp only [Act.put, List.setIfInBounds_toArray, List.set_cons_zero, List.set_cons_succ]
    rfl
  refine qstep (N := some 23) (v := .int .i64 b) (a' := ?_) rfl (by rfl) (fun w' h => load_cell (h.blk0) HC_cs_2.out rfl rfl Try.underlying3 rfl) ?_ ?_
  rotate_left
  · simp only [Act.put, List.setIfInBounds_toArray, List.set_cons_zero, List.set_cons_succ]
    rfl
  refine qstep (N := some 24) (v := .bool true) (a' := ?_) rfl (by rfl) (fun w' _ => by go_simp; (try simp only [i64_w]); first | exact P1.out | exact cmp_ P1.out | exact cmpd_ P1.out) ?_ ?_
  rotate_left
  · simp only [Act.put, List.setIfInBounds_toArray, List.set_cons_zero, List.set_cons_succ]
    rfl
  refine qstep (N := some 25) (v := .bool true) (a' := ?_) rfl (by rfl) (fun w' _ => by go_simp) ?_ ?_
  rotate_left
  · simp only [Act.put, List.setIfInBounds_toArray, List.set_cons_zero, List.set_cons_succ]
    rfl
  refine qstep (N := some 26) (v := .bool true) (a' := ?_) rfl (by rfl) (fun w' _ => by go_simp) ?_ ?_
  rotate_left
  · simp only [Act.put, List.setIfInBounds_toArray, List.set_cons_zero, List.set_cons_succ]
    rfl
  refine qstep (N := some 27) (v := .agg cs) (a' := ?_) rfl (by rfl) (fun w' h => load_row (h.blk0) rfl rfl Try.underlying23 rfl (by rw [HS_cs.out]; exact info23)) ?_ ?_
  rotate_left
  · simp only [Act.put, List.setIfInBounds_toArray, List.set_cons_zero, List.set_cons_succ]
    rfl
  refine qstep (N := some 28) (v := .pointer (some ⟨w.heap.size, 3, none⟩)) (a' := ?_) rfl (by rfl) (fun w' _ => by go_simp) ?_ ?_
  rotate_left
  · simp only [Act.put, List.setIfInBounds_toArray, List.set_cons_zero, List.set_cons_succ]
    rfl
  refine qstep (N := some 29) (v := .int .i64 c) (a' := ?_) rfl (by rfl) (fun w' h => load_cell (h.blk0) HC_cs_3.out rfl rfl Try.underlying3 rfl) ?_ ?_
  rotate_left
  · simp only [Act.put, List.setIfInBounds_toArray, List.set_cons_zero, List.set_cons_succ]
    rfl
  refine qcall (N := some 30) (a' := ?_) (f := 37) Try.func37 (by kernel_rfl) rfl #[.agg cs, .int .i64 c] (by rfl) rfl rfl (by (try simp only [List.map_toArray, List.map_cons, List.map_nil]); first | done | rfl) (qcall_cls (v := .int .i64 (C k a b c d (hold c))) (HA.out c)) ?_ ?_
  rotate_left
  · simp only [Act.put, List.setIfInBounds_toArray, List.set_cons_zero, List.set_cons_succ]
    rfl
  refine qstep (N := some 31) (v := .pointer (some ⟨w.heap.size, 2, none⟩)) (a' := ?_) rfl (by rfl) (fun w' _ => by go_simp) ?_ ?_
  rotate_left
  · simp only [Act.put, List.setIfInBounds_toArray, List.set_cons_zero, List.set_cons_succ]
    rfl
  refine qstep (N := some 32) (v := .int .i64 b) (a' := ?_) rfl (by rfl) (fun w' h => load_cell (h.blk0) HC_cs_2.out rfl rfl Try.underlying3 rfl) ?_ ?_
  rotate_left
  · simp only [Act.put, List.setIfInBounds_toArray, List.set_cons_zero, List.set_cons_succ]
    rfl
  refine qstep (N := some 33) (v := .bool true) (a' := ?_) rfl (by rfl) (fun w' _ => by go_simp; (try simp only [i64_w]); first | exact P2.out | exact cmp_ P2.out | exact cmpd_ P2.out) ?_ ?_
  rotate_left
  · simp only [Act.put, List.setIfInBounds_toArray, List.set_cons_zero, List.set_cons_succ]
    rfl
  refine qstep (N := some 34) (v := .bool true) (a' := ?_) rfl (by rfl) (fun w' _ => by go_simp) ?_ ?_
  rotate_left
  · simp only [Act.put, List.setIfInBounds_toArray, List.set_cons_zero, List.set_cons_succ]
    rfl
  refine qstep (N := some 35) (v := .bool true) (a' := ?_) rfl (by rfl) (fun w' _ => by go_simp) ?_ ?_
  rotate_left
  · simp only [Act.put, List.setIfInBounds_toArray, List.set_cons_zero, List.set_cons_succ]
    rfl
  refine qstep (N := some 36) (v := .agg cs) (a' := ?_) rfl (by rfl) (fun w' h => load_row (h.blk0) rfl rfl Try.underlying23 rfl (by rw [HS_cs.out]; exact info23)) ?_ ?_
  rotate_left
  · simp only [Act.put, List.setIfInBounds_toArray, List.set_cons_zero, List.set_cons_succ]
    rfl
  refine qcall (N := some 37) (a' := ?_) (f := 37) Try.func37 (by kernel_rfl) rfl #[.agg cs, .int .i64 (-5)] (by rfl) rfl rfl (by (try simp only [List.map_toArray, List.map_cons, List.map_nil]); first | done | rfl) (qcall_cls (v := .int .i64 (C k a b c d (hold (-5)))) (HA.out (-5))) ?_ ?_
  rotate_left
  · simp only [Act.put, List.setIfInBounds_toArray, List.set_cons_zero, List.set_cons_succ]
    rfl
  refine qstep (N := some 38) (v := .int .i64 (C k a b c d (hold 0))) (a' := ?_) rfl (by rfl) (fun w' _ => by go_simp) ?_ ?_
  rotate_left
  · simp only [Act.put, List.setIfInBounds_toArray, List.set_cons_zero, List.set_cons_succ]
    rfl
  refine qstep (N := some 39) (v := .bool true) (a' := ?_) rfl (by rfl) (fun w' _ => by go_simp; (try simp only [i64_w]); first | exact P3.out | exact cmp_ P3.out | exact cmpd_ P3.out) ?_ ?_
  rotate_left
  · simp only [Act.put, List.setIfInBounds_toArray, List.set_cons_zero, List.set_cons_succ]
    rfl
  refine qstep (N := some 40) (v := .bool true) (a' := ?_) rfl (by rfl) (fun w' _ => by go_simp) ?_ ?_
  rotate_left
  · simp only [Act.put, List.setIfInBounds_toArray, List.set_cons_zero, List.set_cons_succ]
    rfl
  refine qstep (N := some 41) (v := .bool true) (a' := ?_) rfl (by rfl) (fun w' _ => by go_simp) ?_ ?_
  rotate_left
  · simp only [Act.put, List.setIfInBounds_toArray, List.set_cons_zero, List.set_cons_succ]
    rfl
  refine qcall (N := some 42) (a' := ?_) (f := 35) Try.func35 (by kernel_rfl) rfl #[] (by rfl) rfl rfl (by (try simp only [List.map_toArray, List.map_cons, List.map_nil]); first | done | rfl) (qcall_cls (v := .bool true) HK.out) ?_ ?_
  rotate_left
  · simp only [Act.put, List.setIfInBounds_toArray, List.set_cons_zero, List.set_cons_succ]
    rfl
  refine qstep (N := some 43) (v := .bool true) (a' := ?_) rfl (by rfl) (fun w' _ => by go_simp) ?_ ?_
  rotate_left
  · simp only [Act.put, List.setIfInBounds_toArray, List.set_cons_zero, List.set_cons_succ]
    rfl
  refine qstep (N := some 2) (v := .bool true) (a' := ?_) rfl (by rfl) (fun w' _ => by go_simp) ?_ ?_
  rotate_left
  · simp only [Act.put, List.setIfInBounds_toArray, List.set_cons_zero, List.set_cons_succ]
    rfl
  refine wpQuiet_nil ?_
  intro w_ h6_
  have h6 := Aside0.mk h6_
  clear h6_
  go_wp2
  go_ret
  exact ⟨rfl, h6.out.below⟩

set_option maxHeartbeats 4000000 in
set_option maxRecDepth 100000 in
theorem walk2 (k a b c d : Int) (w : World) (cs : Array Value) (HS_cs : Aside0 (cs.size = 5)) (hk : Aside0 (k = 2)) (HC_cs_0 : Aside0 (cs[0]? = some (.int .i64 k))) (HC_cs_1 : Aside0 (cs[1]? = some (.int .i64 a))) (HC_cs_2 : Aside0 (cs[2]? = some (.int .i64 b))) (HC_cs_3 : Aside0 (cs[3]? = some (.int .i64 c))) (HC_cs_4 : Aside0 (cs[4]? = some (.int .i64 d)))
    (H0 : Aside0 (Rets Try.prog 36 #[.agg cs] (.bool true))) (HA : Aside0 (∀ x, Rets Try.prog 37 #[.agg cs, .int .i64 x] (.int .i64 (C k a b c d (hold x))))) (HK : Aside0 (Rets Try.prog 35 #[] (.bool true)))
    (P0 : Aside0 (C k a b c d (hold 0) = a))
    (P1 : Aside0 (C k a b c d (hold 1000000000) ≥ b))
    (P2 : Aside0 (C k a b c d (hold (wrap64 (d - 1))) = a))
    (P3 : Aside0 (C k a b c d (hold d) = mx b (wrap64 (a - c)))) :
    Calls Try.prog 14 #[.agg cs] w fun e w' => e = .returned (.bool true) ∧ Below w.heap.size w w' := by
  have HCl : Aside0 (Cls w ((w.heap.size, cs, 23) :: []) (w.alloc (.cells cs 23 (0, 0)))) := ⟨(Cls.start w).put cs 23⟩
  go_enter Try.func14, Try.ntmps14
  go_upto_region 1 with (fail)
  refine region_p (C := Cls w ((w.heap.size, cs, 23) :: [])) (HCl.out) ?_
  refine qstep (N := some 5) (v := .agg cs) (a' := ?_) rfl (by rfl) (fun w' h => load_row (h.blk0) rfl rfl Try.underlying23 rfl (by rw [HS_cs.out]; exact info23)) ?_ ?_
  rotate_left
  · simp only [Act.put, List.setIfInBounds_toArray, List.set_cons_zero, List.set_cons_succ]
    rfl
  refine qcall (N := some 6) (a' := ?_) (f := 36) Try.func36 (by kernel_rfl) rfl #[.agg cs] (by rfl) rfl rfl (by (try simp only [List.map_toArray, List.map_cons, List.map_nil]); first | done | rfl) (qcall_cls (v := .bool true) H0.out) ?_ ?_
  rotate_left
  · simp only [Act.put, List.setIfInBounds_toArray, List.set_cons_zero, List.set_cons_succ]
    rfl
  refine qstep (N := some 7) (v := .bool false) (a' := ?_) rfl (by rfl) (fun w' _ => by go_simp) ?_ ?_
  rotate_left
  · simp only [Act.put, List.setIfInBounds_toArray, List.set_cons_zero, List.set_cons_succ]
    rfl
  refine wpQuiet_nil ?_
  intro w_ h1_
  have h1 := Aside0.mk h1_
  clear h1_
  go_upto_region 3 with (fail)
  refine region_q (C := Cls w ((w.heap.size, cs, 23) :: [])) (by kernel_rfl) (by kernel_rfl) (h1.out.drew) ?_
  refine qstep (N := some 8) (v := .agg cs) (a' := ?_) rfl (by rfl) (fun w' h => load_row (h.blk0) rfl rfl Try.underlying23 rfl (by rw [HS_cs.out]; exact info23)) ?_ ?_
  rotate_left
  · simp only [Act.put, List.setIfInBounds_toArray, List.set_cons_zero, List.set_cons_succ]
    rfl
  refine qcall (N := some 9) (a' := ?_) (f := 37) Try.func37 (by kernel_rfl) rfl #[.agg cs, .int .i64 0] (by rfl) rfl rfl (by (try simp only [List.map_toArray, List.map_cons, List.map_nil]); first | done | rfl) (qcall_cls (v := .int .i64 (C k a b c d (hold 0))) (HA.out 0)) ?_ ?_
  rotate_left
  · simp only [Act.put, List.setIfInBounds_toArray, List.set_cons_zero, List.set_cons_succ]
    rfl
  refine qstep (N := some 10) (v := .agg cs) (a' := ?_) rfl (by rfl) (fun w' h => load_row (h.blk0) rfl rfl Try.underlying23 rfl (by rw [HS_cs.out]; exact info23)) ?_ ?_
  rotate_left
  · simp only [Act.put, List.setIfInBounds_toArray, List.set_cons_zero, List.set_cons_succ]
    rfl
  refine qcall (N := some 11) (a' := ?_) (f := 37) Try.func37 (by kernel_rfl) rfl #[.agg cs, .int .i64 1000000000] (by rfl) rfl rfl (by (try simp only [List.map_toArray, List.map_cons, List.map_nil]); first | done | rfl) (qcall_cls (v := .int .i64 (C k a b c d (hold 1000000000))) (HA.out 1000000000)) ?_ ?_
  rotate_left
  · simp only [Act.put, List.setIfInBounds_toArray, List.set_cons_zero, List.set_cons_succ]
    rfl
  refine qstep (N := some 3) (v := .int .i64 (C k a b c d (hold 0))) (a' := ?_) rfl (by rfl) (fun w' _ => by go_simp) ?_ ?_
  rotate_left
  · simp only [Act.put, List.setIfInBounds_toArray, List.set_cons_zero, List.set_cons_succ]
    rfl
  refine qstep (N := some 4) (v := .int .i64 (C k a b c d (hold 1000000000))) (a' := ?_) rfl (by rfl) (fun w' _ => by go_simp) ?_ ?_
  rotate_left
  · simp only [Act.put, List.setIfInBounds_toArray, List.set_cons_zero, List.set_cons_succ]
    rfl
  refine wpQuiet_nil ?_
  intro w_ h3_
  have h3 := Aside0.mk h3_
  clear h3_
  go_upto_region 4 with (fail)
  refine region_p (C := Cls w ((w.heap.size, cs, 23) :: [])) (h3.out) ?_
  refine qstep (N := some 12) (v := .pointer (some ⟨w.heap.size, 0, none⟩)) (a' := ?_) rfl (by rfl) (fun w' _ => by go_simp) ?_ ?_
  rotate_left
  · simp only [Act.put, List.setIfInBounds_toArray, List.set_cons_zero, List.set_cons_succ]
    rfl
  refine qstep (N := some 13) (v := .int .i64 k) (a' := ?_) rfl (by rfl) (fun w' h => load_cell (h.blk0) HC_cs_0.out rfl rfl Try.underlying3 rfl) ?_ ?_
  rotate_left
  · simp only [Act.put, List.setIfInBounds_toArray, List.set_cons_zero, List.set_cons_succ]
    rfl
  refine wpQuiet_nil ?_
  intro w_ h4_
  have h4 := Aside0.mk h4_
  clear h4_
  go_upto_region 5 with (fail)
  refine region_p (C := Cls w ((w.heap.size, cs, 23) :: [])) (h4.out) ?_
  refine qstep (N := some 15) (v := .bool false) (a' := ?_) rfl (by rfl) (fun w' _ => by have h_ := hk.out; go_simp; first | done | (rw [h_]; done) | (rw [h_]; rfl) | (simp [h_]; done)) ?_ ?_
  rotate_left
  · simp only [Act.put, List.setIfInBounds_toArray, List.set_cons_zero, List.set_cons_succ]
    rfl
  refine qstep (N := some 14) (v := .bool false) (a' := ?_) rfl (by rfl) (fun w' _ => by go_simp) ?_ ?_
  rotate_left
  · simp only [Act.put, List.setIfInBounds_toArray, List.set_cons_zero, List.set_cons_succ]
    rfl
  refine wpQuiet_nil ?_
  intro w_ h5_
  have h5 := Aside0.mk h5_
  clear h5_
  go_upto_region 7 with (fail)
  refine region_p (C := Cls w ((w.heap.size, cs, 23) :: [])) (h5.out) ?_
  refine qstep (N := some 45) (v := .bool true) (a' := ?_) rfl (by rfl) (fun w' _ => by have h_ := hk.out; go_simp; first | done | (rw [h_]; done) | (rw [h_]; rfl) | (simp [h_]; done)) ?_ ?_
  rotate_left
  · simp only [Act.put, List.setIfInBounds_toArray, List.set_cons_zero, List.set_cons_succ]
    rfl
  refine qstep (N := some 44) (v := .bool true) (a' := ?_) rfl (by rfl) (fun w' _ => by go_simp) ?_ ?_
  rotate_left
  · simp only [Act.put, List.setIfInBounds_toArray, List.set_cons_zero, List.set_cons_succ]
    rfl
  refine wpQuiet_nil ?_
  intro w_ h7_
  have h7 := Aside0.mk h7_
  clear h7_
  go_upto_region 8 with (fail)
  refine region_q (C := Cls w ((w.heap.size, cs, 23) :: [])) (by kernel_rfl) (by kernel_rfl) (h7.out.drew) ?_
  refine qstep (N := some 46) (v := .int .i64 (C k a b c d (hold 0))) (a' := ?_) rfl (by rfl) (fun w' _ => by go_simp) ?_ ?_
  rotate_left
  · simp only [Act.put, List.setIfInBounds_toArray, List.set_cons_zero, List.set_cons_succ]
    rfl
  refine qstep (N := some 47) (v := .pointer (some ⟨w.heap.size, 1, none⟩)) (a' := ?_) rfl (by rfl) (fun w' _ => by go_simp) ?_ ?_
  rotate_left
  · simp only [Act.put, List.setIfInBounds_toArray, List.set_cons_zero, List.set_cons_succ]
    rfl
  refine qstep (N := some 48) (v := .int .i64 a) (a' := ?_) rfl (by rfl) (fun w' h => load_cell (h.blk0) HC_cs_1.out rfl rfl Try.underlying3 rfl) ?_ ?_
  rotate_left
  · simp only [Act.put, List.setIfInBounds_toArray, List.set_cons_zero, List.set_cons_succ]
    rfl
  refine qstep (N := some 49) (v := .bool true) (a' := ?_) rfl (by rfl) (fun w' _ => by go_simp; (try simp only [i64_w]); first | exact P0.out | exact cmp_ P0.out | exact cmpd_ P0.out) ?_ ?_
  rotate_left
  · simp only [Act.put, List.setIfInBounds_toArray, List.set_cons_zero, List.set_cons_succ]
    rfl
  refine qstep (N := some 50) (v := .bool true) (a' := ?_) rfl (by rfl) (fun w' _ => by go_simp) ?_ ?_
  rotate_left
  · simp only [Act.put, List.setIfInBounds_toArray, List.set_cons_zero, List.set_cons_succ]
    rfl
  refine qstep (N := some 51) (v := .int .i64 (C k a b c d (hold 1000000000))) (a' := ?_) rfl (by rfl) (fun w' _ => by go_simp) ?_ ?_
  rotate_left
  · simp only [Act.put, List.setIfInBounds_toArray, List.set_cons_zero, List.set_cons_succ]
    rfl
  refine qstep (N := some 52) (v := .pointer (some ⟨w.heap.size, 2, none⟩)) (a' := ?_) rfl (by rfl) (fun w' _ => by go_simp) ?_ ?_
  rotate_left
  · simp only [Act.put, List.setIfInBounds_toArray, List.set_cons_zero, List.set_cons_succ]
    rfl
  refine qstep (N := some 53) (v := .int .i64 b) (a' := ?_) rfl (by rfl) (fun w' h => load_cell (h.blk0) HC_cs_2.out rfl rfl Try.underlying3 rfl) ?_ ?_
  rotate_left
  · simp only [Act.put, List.setIfInBounds_toArray, List.set_cons_zero, List.set_cons_succ]
    rfl
  refine qstep (N := some 54) (v := .bool true) (a' := ?_) rfl (by rfl) (fun w' _ => by go_simp; (try simp only [i64_w]); first | exact P1.out | exact cmp_ P1.out | exact cmpd_ P1.out) ?_ ?_
  rotate_left
  · simp only [Act.put, List.setIfInBounds_toArray, List.set_cons_zero, List.set_cons_succ]
    rfl
  refine qstep (N := some 55) (v := .bool true) (a' := ?_) rfl (by rfl) (fun w' _ => by go_simp) ?_ ?_
  rotate_left
  · simp only [Act.put, List.setIfInBounds_toArray, List.set_cons_zero, List.set_cons_succ]
    rfl
  refine qstep (N := some 56) (v := .bool true) (a' := ?_) rfl (by rfl) (fun w' _ => by go_simp) ?_ ?_
  rotate_left
  · simp only [Act.put, List.setIfInBounds_toArray, List.set_cons_zero, List.set_cons_succ]
    rfl
  refine qstep (N := some 57) (v := .agg cs) (a' := ?_) rfl (by rfl) (fun w' h => load_row (h.blk0) rfl rfl Try.underlying23 rfl (by rw [HS_cs.out]; exact info23)) ?_ ?_
  rotate_left
  · simp only [Act.put, List.setIfInBounds_toArray, List.set_cons_zero, List.set_cons_succ]
    rfl
  refine qstep (N := some 58) (v := .pointer (some ⟨w.heap.size, 4, none⟩)) (a' := ?_) rfl (by rfl) (fun w' _ => by go_simp) ?_ ?_
  rotate_left
  · simp only [Act.put, List.setIfInBounds_toArray, List.set_cons_zero, List.set_cons_succ]
    rfl
  refine qstep (N := some 59) (v := .int .i64 d) (a' := ?_) rfl (by rfl) (fun w' h => load_cell (h.blk0) HC_cs_4.out rfl rfl Try.underlying3 rfl) ?_ ?_
  rotate_left
  · simp only [Act.put, List.setIfInBounds_toArray, List.set_cons_zero, List.set_cons_succ]
    rfl
  refine qstep (N := some 60) (v := .int .i64 (wrap64 (d - 1))) (a' := ?_) rfl (by rfl) (fun w' _ => by go_simp <;> simp only [i64_w]) ?_ ?_
  rotate_left
  · simp only [Act.put, List.setIfInBounds_toArray, List.set_cons_zero, List.set_cons_succ]
    rfl
  refine qcall (N := some 61) (a' := ?_) (f := 37) Try.func37 (by kernel_rfl) rfl #[.agg cs, .int .i64 (wrap64 (d - 1))] (by rfl) rfl rfl (by (try simp only [List.map_toArray, List.map_cons, List.map_nil]); first | done | rfl) (qcall_cls (v := .int .i64 (C k a b c d (hold (wrap64 (d - 1))))) (HA.out (wrap64 (d - 1)))) ?_ ?_
  rotate_left
  · simp only [Act.put, List.setIfInBounds_toArray, List.set_cons_zero, List.set_cons_succ]
    rfl
  refine qstep (N := some 62) (v := .pointer (some ⟨w.heap.size, 1, none⟩)) (a' := ?_) rfl (by rfl) (fun w' _ => by go_simp) ?_ ?_
  rotate_left
  · simp only [Act.put, List.setIfInBounds_toArray, List.set_cons_zero, List.set_cons_succ]
    rfl
  refine qstep (N := some 63) (v := .int .i64 a) (a' := ?_) rfl (by rfl) (fun w' h => load_cell (h.blk0) HC_cs_1.out rfl rfl Try.underlying3 rfl) ?_ ?_
  rotate_left
  · simp only [Act.put, List.setIfInBounds_toArray, List.set_cons_zero, List.set_cons_succ]
    rfl
  refine qstep (N := some 64) (v := .bool true) (a' := ?_) rfl (by rfl) (fun w' _ => by go_simp; (try simp only [i64_w]); first | exact P2.out | exact cmp_ P2.out | exact cmpd_ P2.out) ?_ ?_
  rotate_left
  · simp only [Act.put, List.setIfInBounds_toArray, List.set_cons_zero, List.set_cons_succ]
    rfl
  refine qstep (N := some 65) (v := .bool true) (a' := ?_) rfl (by rfl) (fun w' _ => by go_simp) ?_ ?_
  rotate_left
  · simp only [Act.put, List.setIfInBounds_toArray, List.set_cons_zero, List.set_cons_succ]
    rfl
  refine qstep (N := some 66) (v := .bool true) (a' := ?_) rfl (by rfl) (fun w' _ => by go_simp) ?_ ?_
  rotate_left
  · simp only [Act.put, List.setIfInBounds_toArray, List.set_cons_zero, List.set_cons_succ]
    rfl
  refine qstep (N := some 67) (v := .agg cs) (a' := ?_) rfl (by rfl) (fun w' h => load_row (h.blk0) rfl rfl Try.underlying23 rfl (by rw [HS_cs.out]; exact info23)) ?_ ?_
  rotate_left
  · simp only [Act.put, List.setIfInBounds_toArray, List.set_cons_zero, List.set_cons_succ]
    rfl
  refine qstep (N := some 68) (v := .pointer (some ⟨w.heap.size, 4, none⟩)) (a' := ?_) rfl (by rfl) (fun w' _ => by go_simp) ?_ ?_
  rotate_left
  · simp only [Act.put, List.setIfInBounds_toArray, List.set_cons_zero, List.set_cons_succ]
    rfl
  refine qstep (N := some 69) (v := .int .i64 d) (a' := ?_) rfl (by rfl) (fun w' h => load_cell (h.blk0) HC_cs_4.out rfl rfl Try.underlying3 rfl) ?_ ?_
  rotate_left
  · simp only [Act.put, List.setIfInBounds_toArray, List.set_cons_zero, List.set_cons_succ]
    rfl
  refine qcall (N := some 70) (a' := ?_) (f := 37) Try.func37 (by kernel_rfl) rfl #[.agg cs, .int .i64 d] (by rfl) rfl rfl (by (try simp only [List.map_toArray, List.map_cons, List.map_nil]); first | done | rfl) (qcall_cls (v := .int .i64 (C k a b c d (hold d))) (HA.out d)) ?_ ?_
  rotate_left
  · simp only [Act.put, List.setIfInBounds_toArray, List.set_cons_zero, List.set_cons_succ]
    rfl
  refine qstep (N := some 71) (v := .pointer (some ⟨w.heap.size, 2, none⟩)) (a' := ?_) rfl (by rfl) (fun w' _ => by go_simp) ?_ ?_
  rotate_left
  · simp only [Act.put, List.setIfInBounds_toArray, List.set_cons_zero, List.set_cons_succ]
    rfl
  refine qstep (N := some 72) (v := .int .i64 b) (a' := ?_) rfl (by rfl) (fun w' h => load_cell (h.blk0) HC_cs_2.out rfl rfl Try.underlying3 rfl) ?_ ?_
  rotate_left
  · simp only [Act.put, List.setIfInBounds_toArray, List.set_cons_zero, List.set_cons_succ]
    rfl
  refine qstep (N := some 73) (v := .pointer (some ⟨w.heap.size, 1, none⟩)) (a' := ?_) rfl (by rfl) (fun w' _ => by go_simp) ?_ ?_
  rotate_left
  · simp only [Act.put, List.setIfInBounds_toArray, List.set_cons_zero, List.set_cons_succ]
    rfl
  refine qstep (N := some 74) (v := .int .i64 a) (a' := ?_) rfl (by rfl) (fun w' h => load_cell (h.blk0) HC_cs_1.out rfl rfl Try.underlying3 rfl) ?_ ?_
  rotate_left
  · simp only [Act.put, List.setIfInBounds_toArray, List.set_cons_zero, List.set_cons_succ]
    rfl
  refine qstep (N := some 75) (v := .pointer (some ⟨w.heap.size, 3, none⟩)) (a' := ?_) rfl (by rfl) (fun w' _ => by go_simp) ?_ ?_
  rotate_left
  · simp only [Act.put, List.setIfInBounds_toArray, List.set_cons_zero, List.set_cons_succ]
    rfl
  refine qstep (N := some 76) (v := .int .i64 c) (a' := ?_) rfl (by rfl) (fun w' h => load_cell (h.blk0) HC_cs_3.out rfl rfl Try.underlying3 rfl) ?_ ?_
  rotate_left
  · simp only [Act.put, List.setIfInBounds_toArray, List.set_cons_zero, List.set_cons_succ]
    rfl
  refine qstep (N := some 77) (v := .int .i64 (wrap64 (a - c))) (a' := ?_) rfl (by rfl) (fun w' _ => by go_simp <;> simp only [i64_w]) ?_ ?_
  rotate_left
  · simp only [Act.put, List.setIfInBounds_toArray, List.set_cons_zero, List.set_cons_succ]
    rfl
  refine qstep (N := some 78) (v := .int .i64 (mx b (wrap64 (a - c)))) (a' := ?_) rfl (by rfl) (fun w' _ => by go_simp <;> rfl) ?_ ?_
  rotate_left
  · simp only [Act.put, List.setIfInBounds_toArray, List.set_cons_zero, List.set_cons_succ]
    rfl
  refine qstep (N := some 79) (v := .bool true) (a' := ?_) rfl (by rfl) (fun w' _ => by go_simp; (try simp only [i64_w]); first | exact P3.out | exact cmp_ P3.out | exact cmpd_ P3.out) ?_ ?_
  rotate_left
  · simp only [Act.put, List.setIfInBounds_toArray, List.set_cons_zero, List.set_cons_succ]
    rfl
  refine qstep (N := some 80) (v := .bool true) (a' := ?_) rfl (by rfl) (fun w' _ => by go_simp) ?_ ?_
  rotate_left
  · simp only [Act.put, List.setIfInBounds_toArray, List.set_cons_zero, List.set_cons_succ]
    rfl
  refine qstep (N := some 81) (v := .bool true) (a' := ?_) rfl (by rfl) (fun w' _ => by go_simp) ?_ ?_
  rotate_left
  · simp only [Act.put, List.setIfInBounds_toArray, List.set_cons_zero, List.set_cons_succ]
    rfl
  refine qcall (N := some 82) (a' := ?_) (f := 35) Try.func35 (by kernel_rfl) rfl #[] (by rfl) rfl rfl (by (try simp only [List.map_toArray, List.map_cons, List.map_nil]); first | done | rfl) (qcall_cls (v := .bool true) HK.out) ?_ ?_
  rotate_left
  · simp only [Act.put, List.setIfInBounds_toArray, List.set_cons_zero, List.set_cons_succ]
    rfl
  refine qstep (N := some 83) (v := .bool true) (a' := ?_) rfl (by rfl) (fun w' _ => by go_simp) ?_ ?_
  rotate_left
  · simp only [Act.put, List.setIfInBounds_toArray, List.set_cons_zero, List.set_cons_succ]
    rfl
  refine qstep (N := some 2) (v := .bool true) (a' := ?_) rfl (by rfl) (fun w' _ => by go_simp) ?_ ?_
  rotate_left
  · simp only [Act.put, List.setIfInBounds_toArray, List.set_cons_zero, List.set_cons_succ]
    rfl
  refine wpQuiet_nil ?_
  intro w_ h8_
  have h8 := Aside0.mk h8_
  clear h8_
  go_wp2
  go_ret
  exact ⟨rfl, h8.out.below⟩

set_option maxHeartbeats 4000000 in
set_option maxRecDepth 100000 in
theorem walk3 (k a b c d : Int) (w : World) (cs : Array Value) (HS_cs : Aside0 (cs.size = 5)) (hk : Aside0 (k = 3)) (HC_cs_0 : Aside0 (cs[0]? = some (.int .i64 k))) (HC_cs_1 : Aside0 (cs[1]? = some (.int .i64 a))) (HC_cs_2 : Aside0 (cs[2]? = some (.int .i64 b))) (HC_cs_3 : Aside0 (cs[3]? = some (.int .i64 c))) (HC_cs_4 : Aside0 (cs[4]? = some (.int .i64 d)))
    (H0 : Aside0 (Rets Try.prog 36 #[.agg cs] (.bool true))) (HA : Aside0 (∀ x, Rets Try.prog 37 #[.agg cs, .int .i64 x] (.int .i64 (C k a b c d (hold x))))) (HK : Aside0 (Rets Try.prog 35 #[] (.bool true))) (hnz : Aside0 (¬ wrap64 (1000000000 + b) = 0))
    (P0 : Aside0 (C k a b c d (hold 1000000000) = mx 0 (wrap64 ((wrap64 (Int.tdiv (wrap64 (a * 1000000000)) (wrap64 (1000000000 + b)))) - c))))
    (P1 : Aside0 (C k a b c d (hold 0) ≥ C k a b c d (hold 1000000000))) :
    Calls Try.prog 14 #[.agg cs] w fun e w' => e = .returned (.bool true) ∧ Below w.heap.size w w' := by
  have HCl : Aside0 (Cls w ((w.heap.size, cs, 23) :: []) (w.alloc (.cells cs 23 (0, 0)))) := ⟨(Cls.start w).put cs 23⟩
  go_enter Try.func14, Try.ntmps14
  go_upto_region 1 with (fail)
  refine region_p (C := Cls w ((w.heap.size, cs, 23) :: [])) (HCl.out) ?_
  refine qstep (N := some 5) (v := .agg cs) (a' := ?_) rfl (by rfl) (fun w' h => load_row (h.blk0) rfl rfl Try.underlying23 rfl (by rw [HS_cs.out]; exact info23)) ?_ ?_
  rotate_left
  · simp only [Act.put, List.setIfInBounds_toArray, List.set_cons_zero, List.set_cons_succ]
    rfl
  refine qcall (N := some 6) (a' := ?_) (f := 36) Try.func36 (by kernel_rfl) rfl #[.agg cs] (by rfl) rfl rfl (by (try simp only [List.map_toArray, List.map_cons, List.map_nil]); first | done | rfl) (qcall_cls (v := .bool true) H0.out) ?_ ?_
  rotate_left
  · simp only [Act.put, List.setIfInBounds_toArray, List.set_cons_zero, List.set_cons_succ]
    rfl
  refine qstep (N := some 7) (v := .bool false) (a' := ?_) rfl (by rfl) (fun w' _ => by go_simp) ?_ ?_
  rotate_left
  · simp only [Act.put, List.setIfInBounds_toArray, List.set_cons_zero, List.set_cons_succ]
    rfl
  refine wpQuiet_nil ?_
  intro w_ h1_
  have h1 := Aside0.mk h1_
  clear h1_
  go_upto_region 3 with (fail)
  refine region_q (C := Cls w ((w.heap.size, cs, 23) :: [])) (by kernel_rfl) (by kernel_rfl) (h1.out.drew) ?_
  refine qstep (N := some 8) (v := .agg cs) (a' := ?_) rfl (by rfl) (fun w' h => load_row (h.blk0) rfl rfl Try.underlying23 rfl (by rw [HS_cs.out]; exact info23)) ?_ ?_
  rotate_left
  · simp only [Act.put, List.setIfInBounds_toArray, List.set_cons_zero, List.set_cons_succ]
    rfl
  refine qcall (N := some 9) (a' := ?_) (f := 37) Try.func37 (by kernel_rfl) rfl #[.agg cs, .int .i64 0] (by rfl) rfl rfl (by (try simp only [List.map_toArray, List.map_cons, List.map_nil]); first | done | rfl) (qcall_cls (v := .int .i64 (C k a b c d (hold 0))) (HA.out 0)) ?_ ?_
  rotate_left
  · simp only [Act.put, List.setIfInBounds_toArray, List.set_cons_zero, List.set_cons_succ]
    rfl
  refine qstep (N := some 10) (v := .agg cs) (a' := ?_) rfl (by rfl) (fun w' h => load_row (h.blk0) rfl rfl Try.underlying23 rfl (by rw [HS_cs.out]; exact info23)) ?_ ?_
  rotate_left
  · simp only [Act.put, List.setIfInBounds_toArray, List.set_cons_zero, List.set_cons_succ]
    rfl
  refine qcall (N := some 11) (a' := ?_) (f := 37) Try.func37 (by kernel_rfl) rfl #[.agg cs, .int .i64 1000000000] (by rfl) rfl rfl (by (try simp only [List.map_toArray, List.map_cons, List.map_nil]); first | done | rfl) (qcall_cls (v := .int .i64 (C k a b c d (hold 1000000000))) (HA.out 1000000000)) ?_ ?_
  rotate_left
  · simp only [Act.put, List.setIfInBounds_toArray, List.set_cons_zero, List.set_cons_succ]
    rfl
  refine qstep (N := some 3) (v := .int .i64 (C k a b c d (hold 0))) (a' := ?_) rfl (by rfl) (fun w' _ => by go_simp) ?_ ?_
  rotate_left
  · simp only [Act.put, List.setIfInBounds_toArray, List.set_cons_zero, List.set_cons_succ]
    rfl
  refine qstep (N := some 4) (v := .int .i64 (C k a b c d (hold 1000000000))) (a' := ?_) rfl (by rfl) (fun w' _ => by go_simp) ?_ ?_
  rotate_left
  · simp only [Act.put, List.setIfInBounds_toArray, List.set_cons_zero, List.set_cons_succ]
    rfl
  refine wpQuiet_nil ?_
  intro w_ h3_
  have h3 := Aside0.mk h3_
  clear h3_
  go_upto_region 4 with (fail)
  refine region_p (C := Cls w ((w.heap.size, cs, 23) :: [])) (h3.out) ?_
  refine qstep (N := some 12) (v := .pointer (some ⟨w.heap.size, 0, none⟩)) (a' := ?_) rfl (by rfl) (fun w' _ => by go_simp) ?_ ?_
  rotate_left
  · simp only [Act.put, List.setIfInBounds_toArray, List.set_cons_zero, List.set_cons_succ]
    rfl
  refine qstep (N := some 13) (v := .int .i64 k) (a' := ?_) rfl (by rfl) (fun w' h => load_cell (h.blk0) HC_cs_0.out rfl rfl Try.underlying3 rfl) ?_ ?_
  rotate_left
  · simp only [Act.put, List.setIfInBounds_toArray, List.set_cons_zero, List.set_cons_succ]
    rfl
  refine wpQuiet_nil ?_
  intro w_ h4_
  have h4 := Aside0.mk h4_
  clear h4_
  go_upto_region 5 with (fail)
  refine region_p (C := Cls w ((w.heap.size, cs, 23) :: [])) (h4.out) ?_
  refine qstep (N := some 15) (v := .bool false) (a' := ?_) rfl (by rfl) (fun w' _ => by have h_ := hk.out; go_simp; first | done | (rw [h_]; done) | (rw [h_]; rfl) | (simp [h_]; done)) ?_ ?_
  rotate_left
  · simp only [Act.put, List.setIfInBounds_toArray, List.set_cons_zero, List.set_cons_succ]
    rfl
  refine qstep (N := some 14) (v := .bool false) (a' := ?_) rfl (by rfl) (fun w' _ => by go_simp) ?_ ?_
  rotate_left
  · simp only [Act.put, List.setIfInBounds_toArray, List.set_cons_zero, List.set_cons_succ]
    rfl
  refine wpQuiet_nil ?_
  intro w_ h5_
  have h5 := Aside0.mk h5_
  clear h5_
  go_upto_region 7 with (fail)
  refine region_p (C := Cls w ((w.heap.size, cs, 23) :: [])) (h5.out) ?_
  refine qstep (N := some 45) (v := .bool false) (a' := ?_) rfl (by rfl) (fun w' _ => by have h_ := hk.out; go_simp; first | done | (rw [h_]; done) | (rw [h_]; rfl) | (simp [h_]; done)) ?_ ?_
  rotate_left
  · simp only [Act.put, List.setIfInBounds_toArray, List.set_cons_zero, List.set_cons_succ]
    rfl
  refine qstep (N := some 44) (v := .bool false) (a' := ?_) rfl (by rfl) (fun w' _ => by go_simp) ?_ ?_
  rotate_left
  · simp only [Act.put, List.setIfInBounds_toArray, List.set_cons_zero, List.set_cons_succ]
    rfl
  refine wpQuiet_nil ?_
  intro w_ h7_
  have h7 := Aside0.mk h7_
  clear h7_
  go_upto_region 9 with (fail)
  refine region_q (C := Cls w ((w.heap.size, cs, 23) :: [])) (by kernel_rfl) (by kernel_rfl) (h7.out.drew) ?_
  refine qstep (N := some 84) (v := .int .i64 (C k a b c d (hold 1000000000))) (a' := ?_) rfl (by rfl) (fun w' _ => by go_simp) ?_ ?_
  rotate_left
  · simp only [Act.put, List.setIfInBounds_toArray, List.set_cons_zero, List.set_cons_succ]
    rfl
  refine qstep (N := some 85) (v := .pointer (some ⟨w.heap.size, 1, none⟩)) (a' := ?_) rfl (by rfl) (fun w' _ => by go_simp) ?_ ?_
  rotate_left
  · simp only [Act.put, List.setIfInBounds_toArray, List.set_cons_zero, List.set_cons_succ]
    rfl
  refine qstep (N := some 86) (v := .int .i64 a) (a' := ?_) rfl (by rfl) (fun w' h => load_cell (h.blk0) HC_cs_1.out rfl rfl Try.underlying3 rfl) ?_ ?_
  rotate_left
  · simp only [Act.put, List.setIfInBounds_toArray, List.set_cons_zero, List.set_cons_succ]
    rfl
  refine qstep (N := some 87) (v := .int .i64 (wrap64 (a * 1000000000))) (a' := ?_) rfl (by rfl) (fun w' _ => by go_simp <;> simp only [i64_w]) ?_ ?_
  rotate_left
  · simp only [Act.put, List.setIfInBounds_toArray, List.set_cons_zero, List.set_cons_succ]
    rfl
  refine qstep (N := some 88) (v := .pointer (some ⟨w.heap.size, 2, none⟩)) (a' := ?_) rfl (by rfl) (fun w' _ => by go_simp) ?_ ?_
  rotate_left
  · simp only [Act.put, List.setIfInBounds_toArray, List.set_cons_zero, List.set_cons_succ]
    rfl
  refine qstep (N := some 89) (v := .int .i64 b) (a' := ?_) rfl (by rfl) (fun w' h => load_cell (h.blk0) HC_cs_2.out rfl rfl Try.underlying3 rfl) ?_ ?_
  rotate_left
  · simp only [Act.put, List.setIfInBounds_toArray, List.set_cons_zero, List.set_cons_succ]
    rfl
  refine qstep (N := some 90) (v := .int .i64 (wrap64 (1000000000 + b))) (a' := ?_) rfl (by rfl) (fun w' _ => by go_simp <;> simp only [i64_w]) ?_ ?_
  rotate_left
  · simp only [Act.put, List.setIfInBounds_toArray, List.set_cons_zero, List.set_cons_succ]
    rfl
  refine qstep (N := some 91) (v := .int .i64 (wrap64 (Int.tdiv (wrap64 (a * 1000000000)) (wrap64 (1000000000 + b))))) (a' := ?_) rfl (by rfl) (fun w' _ => by go_simp; (try simp only [i64_w]); first | done | (rw [if_neg hnz.out]; done) | (rw [if_neg hnz.out]; simp only [i64_w])) ?_ ?_
  rotate_left
  · simp only [Act.put, List.setIfInBounds_toArray, List.set_cons_zero, List.set_cons_succ]
    rfl
  refine qstep (N := some 92) (v := .pointer (some ⟨w.heap.size, 3, none⟩)) (a' := ?_) rfl (by rfl) (fun w' _ => by go_simp) ?_ ?_
  rotate_left
  · simp only [Act.put, List.setIfInBounds_toArray, List.set_cons_zero, List.set_cons_succ]
    rfl
  refine qstep (N := some 93) (v := .int .i64 c) (a' := ?_) rfl (by rfl) (fun w' h => load_cell (h.blk0) HC_cs_3.out rfl rfl Try.underlying3 rfl) ?_ ?_
  rotate_left
  · simp only [Act.put, List.setIfInBounds_toArray, List.set_cons_zero, List.set_cons_succ]
    rfl
  refine qstep (N := some 94) (v := .int .i64 (wrap64 ((wrap64 (Int.tdiv (wrap64 (a * 1000000000)) (wrap64 (1000000000 + b)))) - c))) (a' := ?_) rfl (by rfl) (fun w' _ => by go_simp <;> simp only [i64_w]) ?_ ?_
  rotate_left
  · simp only [Act.put, List.setIfInBounds_toArray, List.set_cons_zero, List.set_cons_succ]
    rfl
  refine qstep (N := some 95) (v := .int .i64 (mx 0 (wrap64 ((wrap64 (Int.tdiv (wrap64 (a * 1000000000)) (wrap64 (1000000000 + b)))) - c)))) (a' := ?_) rfl (by rfl) (fun w' _ => by go_simp <;> rfl) ?_ ?_
  rotate_left
  · simp only [Act.put, List.setIfInBounds_toArray, List.set_cons_zero, List.set_cons_succ]
    rfl
  refine qstep (N := some 96) (v := .bool true) (a' := ?_) rfl (by rfl) (fun w' _ => by go_simp; (try simp only [i64_w]); first | exact P0.out | exact cmp_ P0.out | exact cmpd_ P0.out) ?_ ?_
  rotate_left
  · simp only [Act.put, List.setIfInBounds_toArray, List.set_cons_zero, List.set_cons_succ]
    rfl
  refine qstep (N := some 97) (v := .bool true) (a' := ?_) rfl (by rfl) (fun w' _ => by go_simp) ?_ ?_
  rotate_left
  · simp only [Act.put, List.setIfInBounds_toArray, List.set_cons_zero, List.set_cons_succ]
    rfl
  refine qstep (N := some 98) (v := .int .i64 (C k a b c d (hold 0))) (a' := ?_) rfl (by rfl) (fun w' _ => by go_simp) ?_ ?_
  rotate_left
  · simp only [Act.put, List.setIfInBounds_toArray, List.set_cons_zero, List.set_cons_succ]
    rfl
  refine qstep (N := some 99) (v := .int .i64 (C k a b c d (hold 1000000000))) (a' := ?_) rfl (by rfl) (fun w' _ => by go_simp) ?_ ?_
  rotate_left
  · simp only [Act.put, List.setIfInBounds_toArray, List.set_cons_zero, List.set_cons_succ]
    rfl
  refine qstep (N := some 100) (v := .bool true) (a' := ?_) rfl (by rfl) (fun w' _ => by go_simp; (try simp only [i64_w]); first | exact P1.out | exact cmp_ P1.out | exact cmpd_ P1.out) ?_ ?_
  rotate_left
  · simp only [Act.put, List.setIfInBounds_toArray, List.set_cons_zero, List.set_cons_succ]
    rfl
  refine qstep (N := some 101) (v := .bool true) (a' := ?_) rfl (by rfl) (fun w' _ => by go_simp) ?_ ?_
  rotate_left
  · simp only [Act.put, List.setIfInBounds_toArray, List.set_cons_zero, List.set_cons_succ]
    rfl
  refine qstep (N := some 102) (v := .bool true) (a' := ?_) rfl (by rfl) (fun w' _ => by go_simp) ?_ ?_
  rotate_left
  · simp only [Act.put, List.setIfInBounds_toArray, List.set_cons_zero, List.set_cons_succ]
    rfl
  refine qcall (N := some 103) (a' := ?_) (f := 35) Try.func35 (by kernel_rfl) rfl #[] (by rfl) rfl rfl (by (try simp only [List.map_toArray, List.map_cons, List.map_nil]); first | done | rfl) (qcall_cls (v := .bool true) HK.out) ?_ ?_
  rotate_left
  · simp only [Act.put, List.setIfInBounds_toArray, List.set_cons_zero, List.set_cons_succ]
    rfl
  refine qstep (N := some 104) (v := .bool true) (a' := ?_) rfl (by rfl) (fun w' _ => by go_simp) ?_ ?_
  rotate_left
  · simp only [Act.put, List.setIfInBounds_toArray, List.set_cons_zero, List.set_cons_succ]
    rfl
  refine qstep (N := some 2) (v := .bool true) (a' := ?_) rfl (by rfl) (fun w' _ => by go_simp) ?_ ?_
  rotate_left
  · simp only [Act.put, List.setIfInBounds_toArray, List.set_cons_zero, List.set_cons_succ]
    rfl
  refine wpQuiet_nil ?_
  intro w_ h9_
  have h9 := Aside0.mk h9_
  clear h9_
  go_wp2
  go_ret
  exact ⟨rfl, h9.out.below⟩


theorem erIs : PPerEnds.althingref4_Is.f = rIs := rfl
theorem eAt : PPerEnds.per_At.f = pAt := rfl
theorem known_ok (k : Nat) : PPerEnds.althinglaw4_known.f (k + 1) = some true := by kernel_rfl

theorem walk (k a b c d : Int) (w : World) (_ : (Lit.int .i64 k).wf = true ∧ (Lit.int .i64 a).wf = true ∧ (Lit.int .i64 b).wf = true ∧ (Lit.int .i64 c).wf = true ∧ (Lit.int .i64 d).wf = true) :
    Calls Try.prog 14 #[.agg #[.int .i64 k, .int .i64 a, .int .i64 b, .int .i64 c, .int .i64 d]] w fun e w' => e = .returned (.bool true) ∧ Below w.heap.size w w' := by
  have hR : ∀ r, decide (okCurve k a b c d) = r → Rets Try.prog 36 #[.agg #[.int .i64 k, .int .i64 a, .int .i64 b, .int .i64 c, .int .i64 d]] (.bool r) := fun r h w => by
    refine (PPerEnds.althingref4_Is.calls k a b c d r w ?_).mono fun _ _ h => h
    rw [erIs, rIs_eq, h]
  have hK : Rets Try.prog 35 #[] (.bool true) := fun w => (PPerEnds.althinglaw4_known.calls 1 true w (known_ok 0)).mono fun _ _ h => h
  by_cases ok : okCurve k a b c d
  · have hA : ∀ x, Rets Try.prog 37 #[.agg #[.int .i64 k, .int .i64 a, .int .i64 b, .int .i64 c, .int .i64 d], .int .i64 x] (.int .i64 (C k a b c d (hold x))) := fun x w =>
      (PPerEnds.per_At.calls k a b c d x _ w (by rw [eAt]; exact at_eq x ok)).mono fun _ _ h => h
    have h0 := hR true (decide_eq_true ok)
    have e0 : hold 0 = 0 := rfl
    have e1 : hold 1000000000 = 1000000000 := rfl
    rcases ok with ⟨rfl, a0, a1, b0, ba, c1, c2, rfl⟩ | ⟨rfl, a0, a1, b0, ba, c1, c2, d1, d2⟩ | ⟨rfl, a0, a1, b1, b2, c0, c1, rfl⟩
    · refine walk1 1 a b c 0 w _ ⟨rfl⟩ ⟨rfl⟩ ⟨rfl⟩ ⟨rfl⟩ ⟨rfl⟩ ⟨rfl⟩ ⟨rfl⟩ ⟨h0⟩ ⟨hA⟩ ⟨hK⟩ ⟨?_⟩ ⟨?_⟩ ⟨?_⟩ ⟨?_⟩
      · rw [e0]; unfold C; rw [if_pos rfl, if_neg (by omega), Int.mul_zero, Int.zero_ediv]; omega
      · rw [e1]; unfold C; rw [if_pos rfl, if_pos (by omega)]
      · rw [hold_of (by omega) (by omega)]; unfold C; rw [if_pos rfl, if_pos (by omega)]
      · rfl
    · refine walk2 2 a b c d w _ ⟨rfl⟩ ⟨rfl⟩ ⟨rfl⟩ ⟨rfl⟩ ⟨rfl⟩ ⟨rfl⟩ ⟨rfl⟩ ⟨h0⟩ ⟨hA⟩ ⟨hK⟩ ⟨?_⟩ ⟨?_⟩ ⟨?_⟩ ⟨?_⟩
      · rw [e0]; unfold C; rw [if_neg (by decide), if_pos rfl, Int.zero_ediv, Int.zero_mul]; omega
      · rw [e1]; unfold C; rw [if_neg (by decide), if_pos rfl]; omega
      · rw [w64 (by omega) (by omega), hold_of (by omega) (by omega)]; unfold C; rw [if_neg (by decide), if_pos rfl, Int.ediv_eq_zero_of_lt (by omega) (by omega), Int.zero_mul]; omega
      · rw [hold_of (by omega) (by omega), w64 (by omega) (by omega), mx_eq]; unfold C; rw [if_neg (by decide), if_pos rfl, Int.ediv_self (by omega), Int.one_mul]; omega
    · have hs := C_anti (k := 3) (a := a) (b := b) (c := c) (d := 0) (x := 0) (y := 1000000000) (Or.inr (Or.inr ⟨rfl, a0, a1, b1, b2, c0, c1, rfl⟩)) (by omega) (by omega)
      refine walk3 3 a b c 0 w _ ⟨rfl⟩ ⟨rfl⟩ ⟨rfl⟩ ⟨rfl⟩ ⟨rfl⟩ ⟨rfl⟩ ⟨rfl⟩ ⟨h0⟩ ⟨hA⟩ ⟨hK⟩ ⟨?_⟩ ⟨?_⟩ ⟨?_⟩
      · rw [w64 (by omega) (by omega)]; omega
      · rw [e1]; unfold C
        rw [if_neg (by decide), if_neg (by decide), w64 (n := 1000000000 + b) (by omega) (by omega), w64 (n := a * 1000000000) (by omega) (by omega), td (by omega)]
        obtain ⟨q0, q1⟩ := div_le_self (a := a * 1000000000) (b := 1000000000 + b) (by omega) (by omega)
        have q2 : a * 1000000000 / (1000000000 + b) ≤ 1000000000 := by
          have := div_mono (a := a * 1000000000) (b := 1000000000 * 1000000000) (c := 1000000000 + b) (by omega) (by omega)
          have h2 : (1000000000 * 1000000000 : Int) / (1000000000 + b) ≤ 1000000000 := by
            have h3 := (div_spec (a := 1000000000 * 1000000000) (b := 1000000000 + b) (by omega)).1
            by_cases hgt : (1000000000 * 1000000000 : Int) / (1000000000 + b) ≤ 1000000000
            · exact hgt
            · exfalso
              have h4 : (1000000001 : Int) * (1000000000 + b) ≤ (1000000000 * 1000000000 : Int) / (1000000000 + b) * (1000000000 + b) := Int.mul_le_mul_of_nonneg_right (by omega) (by omega)
              omega
          omega
        rw [w64 (n := a * 1000000000 / (1000000000 + b)) (by omega) (by omega), w64 (by omega) (by omega), mx_eq]
        omega
      · rw [e0, e1]; exact hs
  · exact walk0 w _ ⟨rfl⟩ ⟨hR false (decide_eq_false ok)⟩

end Go.Proofs.Ytpnjddolboahoaa.WalkPerEnds
