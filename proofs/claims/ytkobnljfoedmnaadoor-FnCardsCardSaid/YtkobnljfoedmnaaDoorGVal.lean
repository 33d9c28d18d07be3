/- A call of a function value (a literal that was handed over),inside an undrawn region. -/
import Derived.Test.YtkobnljfoedmnaaDoorWLast
set_option linter.unusedVariables false
namespace Go.Proofs.YtkobnljfoedmnaaDoorW.PrintLast
open Go Go.RowKit
variable {P : Program} {ops : Array Oper} {Q : Exit -> Act -> World -> Prop}
theorem goesV_ {oi : Oper} {N : Option Tmp} {a : Act} {w : World} {K : Act -> World -> Prop} (g : FuncId) (lb : Array Value) (eg : ∀ args w,(callFunc g args).run P w = .ok (.enter g args) w) {t : Tmp} {as : Array Operand} {ts : Array TypeId} (args : Array Value)
  (hw : Region.wanted oi (yielded ops a.tmps) = true) (hN : oi.dst = N) (hop : oi.op = .call { callee := .value (.tmp t),args := as,argTypes := ts }) (hv : a.eval (.tmp t) = .func (.func g) #[] lb) (hargs : as.map a.eval = args)
  (h : Calls P g (args ++ lb) w fun e w' => ∃ v,e = .returned v ∧ K (a.put N v) w') : if Region.wanted oi (yielded ops a.tmps) = true then Oper.wp P oi a w K Q else K (a.put N undef) w := by
 refine call_ g (args ++ lb) hw hN ?_ h
 have he := eg (args ++ lb) w
 unfold execOp
 simp [hop,resolve,Deferred.ofValue,invoke,hv,hargs,he]
end Go.Proofs.YtkobnljfoedmnaaDoorW.PrintLast
