/- The quiet walk of a region, behind a name that Lean does not look through. -/
import Derived.Test.YtpnjddolboahoaaQ
namespace Go.Proofs.Ytpnjddolboahoaa.Q
open Go.RowKit Go.Proofs.YtpnjddolboahoaaW.PrintWords Go.Proofs.YtpnjddolboahoaaW.PrintLast
set_option linter.unusedVariables false

structure WQ (P : Program) (ops : Array Oper) (C : World → Prop) (Q : Act → Prop) (l : List Oper) (a : Act) : Prop where
  out : wpQuiet P ops C Q l a

section
variable {P : Program} {ops : Array Oper} {C : World → Prop} {Q : Act → Prop} {a : Act} {o : Oper} {rest : List Oper}

theorem wstep {N : Option Tmp} {v : Value} {a' : Act} (hN : o.dst = N) (hw : Region.wanted o (yielded ops a.tmps) = true) (hr : ∀ w, C w → (execOp a.eval o).run P w = .ok (.value v) w)
    (ha : a.put N v = a') (h : WQ P ops C Q rest a') : WQ P ops C Q (o :: rest) a := ⟨qstep hN hw hr ha h.out⟩

theorem wskip {N : Option Tmp} {a' : Act} (hN : o.dst = N) (hw : Region.wanted o (yielded ops a.tmps) = false)
    (ha : a.put N undef = a') (h : WQ P ops C Q rest a') : WQ P ops C Q (o :: rest) a := ⟨qskip hN hw ha h.out⟩

theorem wcall {N : Option Tmp} {v : Value} {a' : Act} {f : FuncId} {fn : Func} {as : Array Operand} {ts : Array TypeId} (hf : P.funcs[f]? = some fn) (hname : (fn.name == "runtime.NumGoroutine") = false) (hb : fn.body.isSome = true) (args : Array Value)
    (hw : Region.wanted o (yielded ops a.tmps) = true) (hN : o.dst = N) (hop : o.op = .call { callee := .value (.func f), args := as, argTypes := ts }) (hargs : as.map a.eval = args)
    (hc : ∀ w, C w → Calls P f args w fun e w' => e = .returned v ∧ C w')
    (ha : a.put N v = a') (h : WQ P ops C Q rest a') : WQ P ops C Q (o :: rest) a := ⟨qcall hf hname hb args hw hN hop hargs hc ha h.out⟩

theorem wnil (h : Q a) : WQ P ops C Q [] a := ⟨h⟩

theorem wregion_q {id : Nat} {Q : Exit → Act → World → Prop} {a : Act} {w : World} {l : List Oper} {C : World → Prop} (hm : P.follows .mixedOrders = true) (hB : Region.lexB .any l.toArray = true) (hC : C w.drew)
    (h : WQ P l.toArray C (fun a' => ∀ w', C w' → Q .normal a' w') l a) : (Code.region id l.toArray true).wp P Q a w := region_q hm hB hC h.out

theorem wregion_p {id : Nat} {Q : Exit → Act → World → Prop} {a : Act} {w : World} {l : List Oper} {C : World → Prop} (hC : C w)
    (h : WQ P l.toArray C (fun a' => ∀ w', C w' → Q .normal a' w') l a) : (Code.region id l.toArray false).wp P Q a w := region_p hC h.out
end
end Go.Proofs.Ytpnjddolboahoaa.Q
