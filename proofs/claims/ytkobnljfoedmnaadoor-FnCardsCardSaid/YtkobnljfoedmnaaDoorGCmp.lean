/- A comparator that is handed over: what its calls answer,in every world that leaves the elder blocks alone. -/
import Derived.Test.YtkobnljfoedmnaaDoorWWords
set_option linter.unusedVariables false
namespace Go.Proofs.YtkobnljfoedmnaaDoorW.GCmp
open Go Go.Proofs Go.RowKit Go.Proofs.YtkobnljfoedmnaaDoorW.PrintWords
structure CmpS (P : Program) (w0 : World) (p : ByteArray -> ByteArray -> Option Int) where
 g : Nat
 lb : Array Value
 eg : ∀ args w,(callFunc g args).run P w = .ok (.enter g args) w
 ans : ∀ (x y : ByteArray) (b : Int) (W : World),p x y = some b -> Below w0.heap.size w0 W -> Calls P g (#[.string x,.string y] ++ lb) W fun e w' => e = .returned (.int .i64 b) ∧ Below W.heap.size W w'
structure CmpC (P : Program) (w0 : World) (p : ByteArray -> Int -> Int -> ByteArray -> Int -> Int -> Option Int) where
 g : Nat
 lb : Array Value
 eg : ∀ args w,(callFunc g args).run P w = .ok (.enter g args) w
 ans : ∀ (x0 : ByteArray) (x1 x2 : Int) (y0 : ByteArray) (y1 y2 : Int) (b : Int) (W : World),p x0 x1 x2 y0 y1 y2 = some b -> Below w0.heap.size w0 W -> Calls P g (#[.agg #[.string x0,.int .i64 x1,.int .i64 x2],.agg #[.string y0,.int .i64 y1,.int .i64 y2]] ++ lb) W fun e w' => e = .returned (.int .i64 b) ∧ Below W.heap.size W w'
end Go.Proofs.YtkobnljfoedmnaaDoorW.GCmp
