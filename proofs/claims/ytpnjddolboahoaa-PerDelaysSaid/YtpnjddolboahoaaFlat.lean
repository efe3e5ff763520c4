/- Structs of whole numbers by value: how they read, and that they read so in every memory. -/
import Derived.Test.YtpnjddolboahoaaProg
import Derived.WalkKit
import Derived.ProofKit
import Derived.OpenShut
import Derived.ChangeOld
import Derived.Below
import Derived.Lib.SmallJoins
import Derived.ChangeArms
import Derived.KernelRfl
namespace Go.Proofs.Ytpnjddolboahoaa.Flat
open Go.Joins Go.ChangeShapes Go.WideShapes Go.RowKit Go.ChangeAt
set_option linter.unusedVariables false

/-- Whole numbers, truths, and structs of them. -/
def flatB (P : Program) : Nat → TypeId → Bool
  | 0, _ => false
  | d + 1, t => match P.underlying t with
    | some .bool => true
    | some (.int _) => true
    | some (.struct fs) => fs.toList.all fun f => flatB P d f.type
    | _ => false

section
variable {H : Type} {enc : TypeId × Value → H} {P : Program}

theorem mapM_opt {α β : Type} {f g : α → Option β} : ∀ {l : List α} {xs : List β}, l.mapM f = some xs → (∀ a ∈ l, ∀ x, f a = some x → g a = some x) → l.mapM g = some xs
  | [], xs, h, _ => by simpa using h
  | a :: l, xs, h, hg => by
    rw [List.mapM_cons] at h ⊢
    simp only [Option.bind_eq_bind, Option.bind_eq_some_iff, Option.pure_def] at h ⊢
    obtain ⟨x, hx, ys, hys, he⟩ := h
    exact ⟨x, hg a (by simp) x hx, ys, mapM_opt hys (fun b hb => hg b (by simp [hb])), he⟩

theorem mapM_all {α β : Type} {f : α → Option β} {p : β → Prop} : ∀ {l : List α} {xs : List β}, l.mapM f = some xs → (∀ a ∈ l, ∀ x, f a = some x → p x) → ∀ x ∈ xs, p x
  | [], xs, h, _ => by
    have : xs = [] := by simpa using h.symm
    subst this; simp
  | a :: l, xs, h, hg => by
    rw [List.mapM_cons] at h
    simp only [Option.bind_eq_bind, Option.bind_eq_some_iff, Option.pure_def] at h
    obtain ⟨x, hx, ys, hys, he⟩ := h
    obtain rfl : x :: ys = xs := by simpa using he
    intro y hy
    rcases List.mem_cons.1 hy with rfl | hy
    · exact hg a (by simp) _ hx
    · exact mapM_all hys (fun b hb => hg b (by simp [hb])) y hy

/-- What is flat reads alike in every memory, and holds no place of it. -/
theorem trod_flat : ∀ (d : Nat) (t : TypeId), flatB P d t = true → ∀ (w : World) (base : Nat) (sp : Nat → Bool) (held : Bool) (fuel : Nat) (cs : List Value) (x : DataW H × List MemPlace),
    DataW.trod enc P w base sp held fuel t cs = some x → x.2 = [] ∧ ∀ (w' : World) (base' : Nat) (sp' : Nat → Bool) (held' : Bool), DataW.trod enc P w' base' sp' held' fuel t cs = some x
  | 0, t, h => by simp [flatB] at h
  | d + 1, t, h => by
    intro w base sp held fuel cs x hx
    unfold flatB at h
    cases fuel with
    | zero => simp [DataW.trod] at hx
    | succ n =>
      cases hu : P.underlying t with
      | none => rw [hu] at h; simp at h
      | some D =>
        rw [hu] at h
        cases D with
        | bool =>
          unfold DataW.trod at hx
          rw [hu] at hx
          split at hx <;> simp_all
          subst hx
          exact ⟨rfl, fun w' base' sp' => by unfold DataW.trod; simp [hu]⟩
        | int k =>
          unfold DataW.trod at hx
          rw [hu] at hx
          split at hx <;> simp_all
          obtain ⟨⟨rfl, hw⟩, hx⟩ := hx
          subst hx
          exact ⟨rfl, fun w' base' sp' => by unfold DataW.trod; simp [hu, hw]⟩
        | struct fs =>
          have hall : ∀ f ∈ fs.toList, flatB P d f.type = true := by
            have := List.all_eq_true.1 h
            exact this
          clear h
          unfold DataW.trod at hx
          simp only [hu] at hx
          by_cases hl : cs.length = P.cellsOf t
          · rw [if_pos hl] at hx
            simp only [Option.map_eq_some_iff] at hx
            obtain ⟨xs, hp, hd⟩ := hx
            refine ⟨?_, fun w' base' sp' held' => ?_⟩
            · rw [← hd]
              simp only [List.flatMap_eq_nil_iff]
              exact mapM_all (p := fun y : DataW H × List MemPlace => y.2 = []) hp (fun f hf y hy => (trod_flat d f.type (hall f hf) _ _ _ _ _ _ _ hy).1)
            · unfold DataW.trod
              simp only [hu]
              rw [if_pos hl, mapM_opt (g := fun f => DataW.trod enc P w' base' sp' held' n f.type ((cs.drop f.offset).take (P.cellsOf f.type))) hp (fun f hf y hy => (trod_flat d f.type (hall f hf) _ _ _ _ _ _ _ hy).2 w' base' sp' held')]
              simp [hd]
          · rw [if_neg hl] at hx; simp at hx
        | _ => simp at h

/-- The same of a value. -/
theorem Trod_flat {d : Nat} {t : TypeId} (hf : flatB P d t = true) {w : World} {base : Nat} {sp : Nat → Bool} {held : Bool} {v : Value} {x : DataW H} {p : List MemPlace} (h : DataW.Trod enc P w base sp held t v x p) :
    p = [] ∧ ∀ (w' : World) (base' : Nat) (sp' : Nat → Bool) (held' : Bool), DataW.Trod enc P w' base' sp' held' t v x [] := by
  obtain ⟨fuel, h⟩ := h
  obtain ⟨h1, h2⟩ := trod_flat _ _ hf _ _ _ _ _ _ _ h
  simp only at h1
  subst h1
  exact ⟨rfl, fun w' base' sp' held' => ⟨fuel, h2 w' base' sp' held'⟩⟩

/-- One cell of a whole number. -/
theorem cell_int {k : IntKind} {t : TypeId} {w : World} {base : Nat} {sp : Nat → Bool} {held : Bool} {fuel : Nat} {c : Value} {x : DataW H × List MemPlace} (hu : P.underlying t = some (.int k))
    (h : DataW.trod enc P w base sp held fuel t [c] = some x) : ∃ n : Int, c = .int k n ∧ (Lit.int k n).wf = true := by
  cases fuel with
  | zero => simp [DataW.trod] at h
  | succ m =>
    unfold DataW.trod at h
    rw [hu] at h
    split at h <;> simp_all
end

/-- A curve by value. -/
theorem open_curve {H : Type} {enc : TypeId × Value → H} {w : World} {base : Nat} {sp : Nat → Bool} {held : Bool} {r : Reach} {b0 : Nat} {v : Value} {x : DataW H} {p : List MemPlace} (hv : Value.okWide Try.prog w r b0 23 v) (h : DataW.Trod enc Try.prog w base sp held 23 v x p) :
    ∃ a0 a1 a2 a3 a4 : Int, v = .agg #[.int .i64 a0, .int .i64 a1, .int .i64 a2, .int .i64 a3, .int .i64 a4] ∧ p = [] ∧
      ((Lit.int .i64 a0).wf = true ∧ (Lit.int .i64 a1).wf = true ∧ (Lit.int .i64 a2).wf = true ∧ (Lit.int .i64 a3).wf = true ∧ (Lit.int .i64 a4).wf = true) ∧
      ∀ (w' : World) (base' : Nat) (sp' : Nat → Bool) (held' : Bool), DataW.Trod enc Try.prog w' base' sp' held' 23 v x [] := by
  obtain ⟨hp, hall⟩ := Trod_flat (d := 3) (by kernel_rfl) h
  obtain ⟨cs, rfl, hsz⟩ := okWide_struct Try.underlying23 hv
  obtain ⟨l⟩ := cs
  have hC : Try.prog.cellsOf 23 = 5 := by kernel_rfl
  have hC3 : Try.prog.cellsOf 3 = 1 := by kernel_rfl
  match l, hsz.trans hC with
  | [c0, c1, c2, c3, c4], _ =>
    obtain ⟨fuel, hf⟩ := h
    obtain ⟨xs, n, _, hx, _, hlen, hg⟩ := DataW.trod_struct Try.underlying23 hf
    match xs, hlen with
    | [y0, y1, y2, y3, y4], _ =>
      have g0 : DataW.trod enc Try.prog w base sp held n 3 (([c0, c1, c2, c3, c4].drop 0).take (Try.prog.cellsOf 3)) = some y0 := hg 0 _ rfl
      have g1 : DataW.trod enc Try.prog w base sp held n 3 (([c0, c1, c2, c3, c4].drop 1).take (Try.prog.cellsOf 3)) = some y1 := hg 1 _ rfl
      have g2 : DataW.trod enc Try.prog w base sp held n 3 (([c0, c1, c2, c3, c4].drop 2).take (Try.prog.cellsOf 3)) = some y2 := hg 2 _ rfl
      have g3 : DataW.trod enc Try.prog w base sp held n 3 (([c0, c1, c2, c3, c4].drop 3).take (Try.prog.cellsOf 3)) = some y3 := hg 3 _ rfl
      have g4 : DataW.trod enc Try.prog w base sp held n 3 (([c0, c1, c2, c3, c4].drop 4).take (Try.prog.cellsOf 3)) = some y4 := hg 4 _ rfl
      simp only [hC3] at g0 g1 g2 g3 g4
      obtain ⟨a0, rfl, w0⟩ := cell_int (c := c0) Try.underlying3 g0
      obtain ⟨a1, rfl, w1⟩ := cell_int (c := c1) Try.underlying3 g1
      obtain ⟨a2, rfl, w2⟩ := cell_int (c := c2) Try.underlying3 g2
      obtain ⟨a3, rfl, w3⟩ := cell_int (c := c3) Try.underlying3 g3
      obtain ⟨a4, rfl, w4⟩ := cell_int (c := c4) Try.underlying3 g4
      exact ⟨a0, a1, a2, a3, a4, rfl, hp, ⟨w0, w1, w2, w3, w4⟩, hall⟩

/-- A tally by value. -/
theorem open_tally {H : Type} {enc : TypeId × Value → H} {w : World} {base : Nat} {sp : Nat → Bool} {held : Bool} {r : Reach} {b0 : Nat} {v : Value} {x : DataW H} {p : List MemPlace} (hv : Value.okWide Try.prog w r b0 29 v) (h : DataW.Trod enc Try.prog w base sp held 29 v x p) :
    ∃ a0 a1 a2 : Int, v = .agg #[.int .i64 a0, .int .i64 a1, .int .i64 a2] ∧ p = [] ∧
      ((Lit.int .i64 a0).wf = true ∧ (Lit.int .i64 a1).wf = true ∧ (Lit.int .i64 a2).wf = true) ∧
      ∀ (w' : World) (base' : Nat) (sp' : Nat → Bool) (held' : Bool), DataW.Trod enc Try.prog w' base' sp' held' 29 v x [] := by
  obtain ⟨hp, hall⟩ := Trod_flat (d := 3) (by kernel_rfl) h
  obtain ⟨cs, rfl, hsz⟩ := okWide_struct Try.underlying29 hv
  obtain ⟨l⟩ := cs
  have hC : Try.prog.cellsOf 29 = 3 := by kernel_rfl
  have hC3 : Try.prog.cellsOf 3 = 1 := by kernel_rfl
  match l, hsz.trans hC with
  | [c0, c1, c2], _ =>
    obtain ⟨fuel, hf⟩ := h
    obtain ⟨xs, n, _, hx, _, hlen, hg⟩ := DataW.trod_struct Try.underlying29 hf
    match xs, hlen with
    | [y0, y1, y2], _ =>
      have g0 : DataW.trod enc Try.prog w base sp held n 3 (([c0, c1, c2].drop 0).take (Try.prog.cellsOf 3)) = some y0 := hg 0 _ rfl
      have g1 : DataW.trod enc Try.prog w base sp held n 3 (([c0, c1, c2].drop 1).take (Try.prog.cellsOf 3)) = some y1 := hg 1 _ rfl
      have g2 : DataW.trod enc Try.prog w base sp held n 3 (([c0, c1, c2].drop 2).take (Try.prog.cellsOf 3)) = some y2 := hg 2 _ rfl
      simp only [hC3] at g0 g1 g2
      obtain ⟨a0, rfl, w0⟩ := cell_int (c := c0) Try.underlying3 g0
      obtain ⟨a1, rfl, w1⟩ := cell_int (c := c1) Try.underlying3 g1
      obtain ⟨a2, rfl, w2⟩ := cell_int (c := c2) Try.underlying3 g2
      exact ⟨a0, a1, a2, rfl, hp, ⟨w0, w1, w2⟩, hall⟩

/-- Five cells of a curve, inside of a greater struct. -/
theorem cells_curve {H : Type} {enc : TypeId × Value → H} {w : World} {base : Nat} {sp : Nat → Bool} {held : Bool} {fuel : Nat} {c0 c1 c2 c3 c4 : Value} {x : DataW H × List MemPlace} (h : DataW.trod enc Try.prog w base sp held fuel 23 [c0, c1, c2, c3, c4] = some x) :
    ∃ a0 a1 a2 a3 a4 : Int, (c0 = .int .i64 a0 ∧ c1 = .int .i64 a1 ∧ c2 = .int .i64 a2 ∧ c3 = .int .i64 a3 ∧ c4 = .int .i64 a4) ∧
      ((Lit.int .i64 a0).wf = true ∧ (Lit.int .i64 a1).wf = true ∧ (Lit.int .i64 a2).wf = true ∧ (Lit.int .i64 a3).wf = true ∧ (Lit.int .i64 a4).wf = true) := by
  have hC3 : Try.prog.cellsOf 3 = 1 := by kernel_rfl
  obtain ⟨xs, n, _, hx, _, hlen, hg⟩ := DataW.trod_struct Try.underlying23 h
  match xs, hlen with
  | [y0, y1, y2, y3, y4], _ =>
    have g0 : DataW.trod enc Try.prog w base sp held n 3 (([c0, c1, c2, c3, c4].drop 0).take (Try.prog.cellsOf 3)) = some y0 := hg 0 _ rfl
    have g1 : DataW.trod enc Try.prog w base sp held n 3 (([c0, c1, c2, c3, c4].drop 1).take (Try.prog.cellsOf 3)) = some y1 := hg 1 _ rfl
    have g2 : DataW.trod enc Try.prog w base sp held n 3 (([c0, c1, c2, c3, c4].drop 2).take (Try.prog.cellsOf 3)) = some y2 := hg 2 _ rfl
    have g3 : DataW.trod enc Try.prog w base sp held n 3 (([c0, c1, c2, c3, c4].drop 3).take (Try.prog.cellsOf 3)) = some y3 := hg 3 _ rfl
    have g4 : DataW.trod enc Try.prog w base sp held n 3 (([c0, c1, c2, c3, c4].drop 4).take (Try.prog.cellsOf 3)) = some y4 := hg 4 _ rfl
    simp only [hC3] at g0 g1 g2 g3 g4
    obtain ⟨a0, rfl, w0⟩ := cell_int (c := c0) Try.underlying3 g0
    obtain ⟨a1, rfl, w1⟩ := cell_int (c := c1) Try.underlying3 g1
    obtain ⟨a2, rfl, w2⟩ := cell_int (c := c2) Try.underlying3 g2
    obtain ⟨a3, rfl, w3⟩ := cell_int (c := c3) Try.underlying3 g3
    obtain ⟨a4, rfl, w4⟩ := cell_int (c := c4) Try.underlying3 g4
    exact ⟨a0, a1, a2, a3, a4, ⟨rfl, rfl, rfl, rfl, rfl⟩, ⟨w0, w1, w2, w3, w4⟩⟩

/-- A track by value. -/
theorem open_track {H : Type} {enc : TypeId × Value → H} {w : World} {base : Nat} {sp : Nat → Bool} {held : Bool} {r : Reach} {b0 : Nat} {v : Value} {x : DataW H} {p : List MemPlace} (hv : Value.okWide Try.prog w r b0 25 v) (h : DataW.Trod enc Try.prog w base sp held 25 v x p) :
    ∃ a0 a1 a2 a3 a4 a5 a6 a7 a8 a9 a10 a11 a12 a13 a14 a15 a16 a17 : Int, v = .agg #[.int .i64 a0, .int .i64 a1, .int .i64 a2, .int .i64 a3, .int .i64 a4, .int .i64 a5, .int .i64 a6, .int .i64 a7, .int .i64 a8, .int .i64 a9, .int .i64 a10, .int .i64 a11, .int .i64 a12, .int .i64 a13, .int .i64 a14, .int .i64 a15, .int .i64 a16, .int .i64 a17] ∧ p = [] ∧
      ∀ (w' : World) (base' : Nat) (sp' : Nat → Bool) (held' : Bool), DataW.Trod enc Try.prog w' base' sp' held' 25 v x [] := by
  obtain ⟨hp, hall⟩ := Trod_flat (d := 3) (by kernel_rfl) h
  obtain ⟨cs, rfl, hsz⟩ := okWide_struct Try.underlying25 hv
  obtain ⟨l⟩ := cs
  have hC : Try.prog.cellsOf 25 = 18 := by kernel_rfl
  have hC3 : Try.prog.cellsOf 3 = 1 := by kernel_rfl
  have hC23 : Try.prog.cellsOf 23 = 5 := by kernel_rfl
  match l, hsz.trans hC with
  | [c0, c1, c2, c3, c4, c5, c6, c7, c8, c9, c10, c11, c12, c13, c14, c15, c16, c17], _ =>
    obtain ⟨fuel, hf⟩ := h
    obtain ⟨xs, n, _, hx, _, hlen, hg⟩ := DataW.trod_struct Try.underlying25 hf
    match xs, hlen with
    | [y0, y1, y2, y3, y4, y5, y6, y7, y8, y9], _ =>
      have g0 : DataW.trod enc Try.prog w base sp held n 3 (([c0, c1, c2, c3, c4, c5, c6, c7, c8, c9, c10, c11, c12, c13, c14, c15, c16, c17].drop 0).take (Try.prog.cellsOf 3)) = some y0 := hg 0 _ rfl
      have g1 : DataW.trod enc Try.prog w base sp held n 3 (([c0, c1, c2, c3, c4, c5, c6, c7, c8, c9, c10, c11, c12, c13, c14, c15, c16, c17].drop 1).take (Try.prog.cellsOf 3)) = some y1 := hg 1 _ rfl
      have g2 : DataW.trod enc Try.prog w base sp held n 3 (([c0, c1, c2, c3, c4, c5, c6, c7, c8, c9, c10, c11, c12, c13, c14, c15, c16, c17].drop 2).take (Try.prog.cellsOf 3)) = some y2 := hg 2 _ rfl
      have g3 : DataW.trod enc Try.prog w base sp held n 3 (([c0, c1, c2, c3, c4, c5, c6, c7, c8, c9, c10, c11, c12, c13, c14, c15, c16, c17].drop 3).take (Try.prog.cellsOf 3)) = some y3 := hg 3 _ rfl
      have g4 : DataW.trod enc Try.prog w base sp held n 3 (([c0, c1, c2, c3, c4, c5, c6, c7, c8, c9, c10, c11, c12, c13, c14, c15, c16, c17].drop 4).take (Try.prog.cellsOf 3)) = some y4 := hg 4 _ rfl
      have g5 : DataW.trod enc Try.prog w base sp held n 3 (([c0, c1, c2, c3, c4, c5, c6, c7, c8, c9, c10, c11, c12, c13, c14, c15, c16, c17].drop 5).take (Try.prog.cellsOf 3)) = some y5 := hg 5 _ rfl
      have g6 : DataW.trod enc Try.prog w base sp held n 23 (([c0, c1, c2, c3, c4, c5, c6, c7, c8, c9, c10, c11, c12, c13, c14, c15, c16, c17].drop 6).take (Try.prog.cellsOf 23)) = some y6 := hg 6 _ rfl
      have g7 : DataW.trod enc Try.prog w base sp held n 23 (([c0, c1, c2, c3, c4, c5, c6, c7, c8, c9, c10, c11, c12, c13, c14, c15, c16, c17].drop 11).take (Try.prog.cellsOf 23)) = some y7 := hg 7 _ rfl
      have g8 : DataW.trod enc Try.prog w base sp held n 3 (([c0, c1, c2, c3, c4, c5, c6, c7, c8, c9, c10, c11, c12, c13, c14, c15, c16, c17].drop 16).take (Try.prog.cellsOf 3)) = some y8 := hg 8 _ rfl
      have g9 : DataW.trod enc Try.prog w base sp held n 3 (([c0, c1, c2, c3, c4, c5, c6, c7, c8, c9, c10, c11, c12, c13, c14, c15, c16, c17].drop 17).take (Try.prog.cellsOf 3)) = some y9 := hg 9 _ rfl
      simp only [hC3, hC23] at g0 g1 g2 g3 g4 g5 g6 g7 g8 g9
      obtain ⟨a0, rfl, w0⟩ := cell_int (c := c0) Try.underlying3 g0
      obtain ⟨a1, rfl, w1⟩ := cell_int (c := c1) Try.underlying3 g1
      obtain ⟨a2, rfl, w2⟩ := cell_int (c := c2) Try.underlying3 g2
      obtain ⟨a3, rfl, w3⟩ := cell_int (c := c3) Try.underlying3 g3
      obtain ⟨a4, rfl, w4⟩ := cell_int (c := c4) Try.underlying3 g4
      obtain ⟨a5, rfl, w5⟩ := cell_int (c := c5) Try.underlying3 g5
      obtain ⟨a6, a7, a8, a9, a10, ⟨rfl, rfl, rfl, rfl, rfl⟩, _⟩ := cells_curve (c0 := c6) (c1 := c7) (c2 := c8) (c3 := c9) (c4 := c10) g6
      obtain ⟨a11, a12, a13, a14, a15, ⟨rfl, rfl, rfl, rfl, rfl⟩, _⟩ := cells_curve (c0 := c11) (c1 := c12) (c2 := c13) (c3 := c14) (c4 := c15) g7
      obtain ⟨a16, rfl, w16⟩ := cell_int (c := c16) Try.underlying3 g8
      obtain ⟨a17, rfl, w17⟩ := cell_int (c := c17) Try.underlying3 g9
      exact ⟨a0, a1, a2, a3, a4, a5, a6, a7, a8, a9, a10, a11, a12, a13, a14, a15, a16, a17, rfl, hp, hall⟩

end Go.Proofs.Ytpnjddolboahoaa.Flat
