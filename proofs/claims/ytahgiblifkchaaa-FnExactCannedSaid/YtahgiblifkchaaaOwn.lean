/- Words of our own beside the print's: a call through a function value that is known. -/
import Derived.Test.YtahgiblifkchaaaWMore
namespace Go.Proofs.Ytahgiblifkchaaa.Own
open Go Go.RowKit Go.Proofs.YtahgiblifkchaaaW.PrintWords Go.Proofs.YtahgiblifkchaaaW.PrintLast Go.Proofs.YtahgiblifkchaaaW.PrintMore
variable {P : Program} {ops : Array Oper} {Q : Exit → Act → World → Prop}
/-- The operation is a call of what slot t holds. -/
theorem gate_callee_tmp {rest : List Oper} {o : Oper} {a : Act} {W : World} {t : Tmp} {as : Array Operand} {ts : Array TypeId} (_ho : o.op = .call { callee := .value (.tmp t), args := as, argTypes := ts }) (h : wpList P ops Q (o :: rest) a W) : wpList P ops Q (o :: rest) a W := h
/-- A call of a function value that captures nothing, in a plain region. -/
theorem goesT_ {rest : List Oper} {oi : Oper} {a : Act} {w : World} {fv : Value} (N : Option Tmp) (hd : oi.dst = N) (hg : oi.guard = none) {f : FuncId} {fn : Func} {t : Tmp} {as : Array Operand} {ts : Array TypeId} (hf : P.funcs[f]? = some fn) (hname : (fn.name == "runtime.NumGoroutine") = false) (hb : fn.body.isSome = true) (args : Array Value)
    (hop : (oi.op, a.eval (.tmp t), fv) = (.call { callee := .value (.tmp t), args := as, argTypes := ts }, .func (.func f) #[] #[], .func (.func f) #[] #[])) (hargs : as.map a.eval = args)
    (h : Calls P f args w fun e w' => ∃ v, e = .returned v ∧ wpList P ops Q rest (a.put N v) w') : wpList P ops Q (oi :: rest) a w := by
  refine wpList_plain hg fun K hK => ?_
  have he := enters_ hf hname hb args w
  have h1 : oi.op = .call { callee := .value (.tmp t), args := as, argTypes := ts } := (Prod.mk.inj hop).1
  have h2 : a.eval (.tmp t) = .func (.func f) #[] #[] := (Prod.mk.inj (Prod.mk.inj hop).2).1
  have hrun : (execOp a.eval oi).run P w = .ok (.enter f args) w := by
    unfold execOp
    simp [h1, h2, resolve, Deferred.ofValue, invoke, hargs, he]
  unfold Oper.wp
  rw [hrun, Oper.upon_enter]
  refine h.mono fun e w'' hh => ?_
  obtain ⟨v, rfl, hk⟩ := hh
  subst hd
  exact hK _ _ hk
end Go.Proofs.Ytahgiblifkchaaa.Own
