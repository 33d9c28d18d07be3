/- A call as a step of a walk, what is alike everywhere told once. -/
import Derived.Test.YtcpkobahiciadaaDoorWLast
set_option linter.unusedVariables false
namespace Go.Proofs.YtcpkobahiciadaaDoorW.GCall
open Go.RowKit Go.Proofs.YtcpkobahiciadaaDoorW.PrintLast
variable {P : Program} {ops : Array Oper} {Q : Exit → Act → World → Prop}
theorem goesM_ {rest : List Oper} {oi : Oper} {a : Act} {w : World} (N : Option Tmp) {f : FuncId} {fn : Func} {as : Array Operand} {ts : Array TypeId} (hf : P.funcs[f]? = some fn) (args : Array Value)
  (h : Calls P f args w fun e w' => ∃ v, e = .returned v ∧ wpList P ops Q rest (a.put N v) w')
  (hd : oi.dst = N := by rfl) (hg : oi.guard = none := by rfl) (hname : (fn.name == "runtime.NumGoroutine") = false := by kernel_rfl) (hb : fn.body.isSome = true := by rfl)
  (hop : oi.op = .call { callee := .value (.func f), args := as, argTypes := ts } := by rfl)
  (hargs : as.map a.eval = args := by (try simp only [List.map_toArray, List.map_cons, List.map_nil]); first | done | rfl | (simp only [List.length_drop, List.length_take]; rfl)) : wpList P ops Q (oi :: rest) a w :=
 goesL_ N hd hg hf hname hb args hop hargs h
end Go.Proofs.YtcpkobahiciadaaDoorW.GCall
namespace Go.Proofs.YtcpkobahiciadaaDoorW.GCall
abbrev Y : Bool := true
abbrev X : Bool := false
end Go.Proofs.YtcpkobahiciadaaDoorW.GCall
