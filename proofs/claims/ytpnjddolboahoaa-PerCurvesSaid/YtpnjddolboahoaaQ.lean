/- Regions that draw their order, whose operations only read and whose callees only make memory of their own: one walk in the order of the text, in a class of memories that hold given blocks. -/
import Derived.Test.YtpnjddolboahoaaWMore
import Derived.Test.YtpnjddolboahoaaWTab
import Derived.Deep.QuietTactic
import Derived.Laws.Rows
namespace Go.Proofs.Ytpnjddolboahoaa.Q
open Go.RowKit Go.Proofs.YtpnjddolboahoaaW.PrintWords Go.Proofs.YtpnjddolboahoaaW.PrintLast
set_option linter.unusedVariables false

/-- A function that hands back one value, whatever the memory, and turns nothing that was there. -/
def Rets (P : Program) (f : FuncId) (args : Array Value) (v : Value) : Prop :=
  ∀ w : World, Calls P f args w fun e w' => e = .returned v ∧ Below w.heap.size w w'

/-- Memories that hold these blocks, and below the first one's heap what it held. -/
def Cls (W : World) (L : List (Nat × Array Value × TypeId)) (w : World) : Prop :=
  Below W.heap.size W w ∧ ∀ x ∈ L, w.heap[x.1]? = some (.cells x.2.1 x.2.2 (0, 0))

theorem Cls.below {W w : World} {L : List (Nat × Array Value × TypeId)} (h : Cls W L w) : Below W.heap.size W w := h.1
theorem Cls.then {W w w' : World} {L : List (Nat × Array Value × TypeId)} (h : Cls W L w) (hb : Below w.heap.size w w') : Cls W L w' :=
  ⟨below_step h.1 hb, fun x hx => blk_below (h.2 x hx) hb⟩
theorem Cls.drew {W w : World} {L : List (Nat × Array Value × TypeId)} (h : Cls W L w) : Cls W L w.drew := ⟨h.1.drew, fun x hx => h.2 x hx⟩
theorem Cls.alloc {W w : World} {L : List (Nat × Array Value × TypeId)} (h : Cls W L w) (o : Obj) : Cls W L (w.alloc o) := ⟨below_alloc h.1 o, fun x hx => blk_alloc (h.2 x hx) o⟩
theorem Cls.put {W w : World} {L : List (Nat × Array Value × TypeId)} (h : Cls W L w) (cs : Array Value) (t : TypeId) : Cls W ((w.heap.size, cs, t) :: L) (w.alloc (.cells cs t (0, 0))) :=
  ⟨below_alloc h.1 _, fun x hx => by
    rcases List.mem_cons.1 hx with rfl | hx
    · exact blk_new w _
    · exact blk_alloc (h.2 x hx) _⟩
theorem Cls.put2 (W : World) (cs ds : Array Value) (t u : TypeId) : Cls W ((W.heap.size + 1, ds, u) :: (W.heap.size, cs, t) :: []) ((W.alloc (.cells cs t (0, 0))).alloc (.cells ds u (0, 0))) := by
  have h := (show Cls W ((W.heap.size, cs, t) :: []) (W.alloc (.cells cs t (0, 0))) from ⟨below_alloc (Below.refl _ _) _, fun x hx => by
    obtain rfl : x = (W.heap.size, cs, t) := by simpa using hx
    exact blk_new W _⟩).put ds u
  have e : (W.alloc (.cells cs t (0, 0))).heap.size = W.heap.size + 1 := by
    show (W.heap.push _).size = _
    simp
  rwa [e] at h
theorem Cls.start (W : World) : Cls W [] W := ⟨Below.refl _ _, fun x hx => by cases hx⟩
theorem Cls.blk0 {W w : World} {g : Nat} {cs : Array Value} {t : TypeId} {L : List (Nat × Array Value × TypeId)} (h : Cls W ((g, cs, t) :: L) w) : w.heap[g]? = some (.cells cs t (0, 0)) := h.2 (g, cs, t) (by simp)
theorem Cls.blk1 {W w : World} {x : Nat × Array Value × TypeId} {g : Nat} {cs : Array Value} {t : TypeId} {L : List (Nat × Array Value × TypeId)} (h : Cls W (x :: (g, cs, t) :: L) w) : w.heap[g]? = some (.cells cs t (0, 0)) := h.2 (g, cs, t) (by simp)

theorem Cls.blk2 {W w : World} {x y : Nat × Array Value × TypeId} {g : Nat} {cs : Array Value} {t : TypeId} {L : List (Nat × Array Value × TypeId)} (h : Cls W (x :: y :: (g, cs, t) :: L) w) : w.heap[g]? = some (.cells cs t (0, 0)) := h.2 (g, cs, t) (by simp)

section
variable {P : Program} {ops : Array Oper} {C : World → Prop} {Q : Act → Prop} {a : Act} {o : Oper} {rest : List Oper}

theorem qstep {N : Option Tmp} {v : Value} {a' : Act} (hN : o.dst = N) (hw : Region.wanted o (yielded ops a.tmps) = true) (hr : ∀ w, C w → (execOp a.eval o).run P w = .ok (.value v) w)
    (ha : a.put N v = a') (h : wpQuiet P ops C Q rest a') : wpQuiet P ops C Q (o :: rest) a := by
  subst ha; subst hN
  refine wpQuiet_step fun K hK => ?_
  rw [if_pos hw]
  refine ⟨v, fun w hC => ?_, hK _ h⟩
  unfold Oper.quietAt
  rw [hr w hC]
  exact ⟨rfl, rfl⟩

theorem qskip {N : Option Tmp} {a' : Act} (hN : o.dst = N) (hw : Region.wanted o (yielded ops a.tmps) = false)
    (ha : a.put N undef = a') (h : wpQuiet P ops C Q rest a') : wpQuiet P ops C Q (o :: rest) a := by
  subst ha; subst hN
  refine wpQuiet_step fun K hK => ?_
  rw [if_neg (by rw [hw]; simp)]
  exact hK _ h

theorem qcall {N : Option Tmp} {v : Value} {a' : Act} {f : FuncId} {fn : Func} {as : Array Operand} {ts : Array TypeId} (hf : P.funcs[f]? = some fn) (hname : (fn.name == "runtime.NumGoroutine") = false) (hb : fn.body.isSome = true) (args : Array Value)
    (hw : Region.wanted o (yielded ops a.tmps) = true) (hN : o.dst = N) (hop : o.op = .call { callee := .value (.func f), args := as, argTypes := ts }) (hargs : as.map a.eval = args)
    (hc : ∀ w, C w → Calls P f args w fun e w' => e = .returned v ∧ C w')
    (ha : a.put N v = a') (h : wpQuiet P ops C Q rest a') : wpQuiet P ops C Q (o :: rest) a := by
  subst ha; subst hN
  refine wpQuiet_step fun K hK => ?_
  rw [if_pos hw]
  refine ⟨v, fun w hC => ?_, hK _ h⟩
  have he := enters_ hf hname hb args w
  unfold Oper.quietAt
  have hrun : (execOp a.eval o).run P w = .ok (.enter f args) w := by
    unfold execOp
    simp [hop, resolve, Deferred.ofValue, invoke, Act.eval, hargs, he]
  rw [hrun]
  exact ⟨rfl, hc w hC⟩

theorem qcall_cls {W : World} {L : List (Nat × Array Value × TypeId)} {f : FuncId} {args : Array Value} {v : Value} (h : Rets P f args v) (w : World) (hC : Cls W L w) :
    Calls P f args w fun e w' => e = .returned v ∧ Cls W L w' := (h w).mono fun _ _ ⟨he, hb⟩ => ⟨he, hC.then hb⟩

/-- A whole struct out of a block. -/
theorem load_row {w : World} {g : Nat} {t ty : TypeId} {cs : Array Value} {d : TypeDesc} {x : Operand} (hg : w.heap[g]? = some (.cells cs t (0, 0)))
    (ho : o.op = .load ty x) (hx : a.eval x = .pointer (some ⟨g, 0, none⟩)) (hu : P.underlying ty = some d) (hd : (match d with | .struct _ | .array _ _ => true | _ => false) = true) (hi : (P.info? ty).map (·.size) = some cs.size) :
    (execOp a.eval o).run P w = .ok (.value (.agg cs)) w := by
  unfold execOp
  simp only [ho, hx, Instr.loadAt, Instr.sureAddr, Sem.run_bind, Sem.run_pure, Result.andThen_ok, run_loadVar_row w g t ty cs (0, 0) d hg hu hd hi]

/-- One cell out of a block. -/
theorem load_cell {w : World} {g i : Nat} {t ty : TypeId} {cs : Array Value} {x : Operand} {d : TypeDesc} {v : Value} (hg : w.heap[g]? = some (.cells cs t (0, 0))) (hi : cs[i]? = some v)
    (ho : o.op = .load ty x) (hx : a.eval x = .pointer (some ⟨g, i, none⟩)) (hu : P.underlying ty = some d) (hd : (match d with | .struct _ | .array _ _ => true | _ => false) = false) :
    (execOp a.eval o).run P w = .ok (.value v) w := by
  have hc : w.cell? ⟨g, i, none⟩ = some v := (blk_cell hg i).trans hi
  have hagg : (isAgg ty).run P w = .ok false w := by
    unfold isAgg
    rw [Sem.run_bind, run_underlying hu w]
    cases d <;> simp_all
  unfold execOp
  simp [ho, hx, Instr.loadAt, Instr.sureAddr, Sem.run_bind, Result.andThen_ok, loadVar, hagg, load, Sem.run, hc]

/-- A struct that lies inside of a greater one. -/
theorem load_part {w : World} {g i : Nat} {t ty : TypeId} {cs ds : Array Value} {x : Operand} {d : TypeDesc} (hg : w.heap[g]? = some (.cells cs t (0, 0))) (hds : ∀ j v, ds[j]? = some v → cs[i + j]? = some v)
    (ho : o.op = .load ty x) (hx : a.eval x = .pointer (some ⟨g, i, none⟩)) (hu : P.underlying ty = some d) (hd : (match d with | .struct _ | .array _ _ => true | _ => false) = true) (hsz : (P.info? ty).map (·.size) = some ds.size) :
    (execOp a.eval o).run P w = .ok (.value (.agg ds)) w := by
  have hl : (loadCells ⟨g, i, none⟩ ds.toList.length).run P w = .ok ds.toList.toArray w :=
    run_loadCells_list (P := P) w ⟨g, i, none⟩ ds.toList (fun j v hv => by
      have hadd : (⟨g, i, none⟩ : Addr).add j = ⟨g, i + j, none⟩ := by unfold Addr.add; split <;> simp_all
      rw [hadd, cell_of_row w g (i + j) cs t (0, 0) hg]
      exact hds j v (by simpa using hv))
  have hrun : (loadVar ty ⟨g, i, none⟩).run P w = .ok (.agg ds) w := by
    cases hq : P.info? ty with
    | none => simp [hq] at hsz
    | some z =>
      have hs : z.size = ds.size := by simpa [hq] using hsz
      have hagg : (isAgg ty).run P w = .ok true w := by
        unfold isAgg
        rw [Sem.run_bind, run_underlying hu w]
        cases d <;> simp_all
      simp only [Array.length_toList, Array.toArray_toList] at hl
      simp [loadVar, Sem.run_bind, hagg, sizeOf, typeInfo, hq, hs, hl]
  unfold execOp
  simp only [ho, hx, Instr.loadAt, Instr.sureAddr, Sem.run_bind, Sem.run_pure, Result.andThen_ok, hrun]

/-- The region's walk, its operations written out. -/
theorem region_q {id : Nat} {Q : Exit → Act → World → Prop} {a : Act} {w : World} {l : List Oper} {C : World → Prop} (hm : P.follows .mixedOrders = true) (hB : Region.lexB .any l.toArray = true) (hC : C w.drew)
    (h : wpQuiet P l.toArray C (fun a' => ∀ w', C w' → Q .normal a' w') l a) : (Code.region id l.toArray true).wp P Q a w :=
  wp_region_quiet hm hB hC (by simpa using h)

theorem list_of_quiet {Q' : Exit → Act → World → Prop} {Qf : Act → Prop} (hQ : ∀ a w, C w → Qf a → Q' .normal a w) : ∀ (l : List Oper) (a : Act) (w : World), C w → wpQuiet P ops C Qf l a → wpList P ops Q' l a w
  | [], a, w, hC, h => hQ a w hC h
  | o :: l, a, w, hC, h => by
    unfold wpQuiet at h
    unfold wpList
    split
    · rename_i hw
      rw [if_pos hw] at h
      exact .inl (Oper.wp_of_quiet hC (fun a' w' hC' hk => list_of_quiet hQ l a' w' hC' hk) h)
    · rename_i hw
      rw [if_neg hw] at h
      exact list_of_quiet hQ l _ w hC h

/-- The same for a region that is walked in the order of its text. -/
theorem region_p {id : Nat} {Q : Exit → Act → World → Prop} {a : Act} {w : World} {l : List Oper} {C : World → Prop} (hC : C w)
    (h : wpQuiet P l.toArray C (fun a' => ∀ w', C w' → Q .normal a' w') l a) : (Code.region id l.toArray false).wp P Q a w :=
  wp_region_lit (list_of_quiet (fun _ w hC h => h w hC) l a w hC h)

end
end Go.Proofs.Ytpnjddolboahoaa.Q
