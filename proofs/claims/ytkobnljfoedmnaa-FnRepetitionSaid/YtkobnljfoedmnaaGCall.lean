/- A call as a step of a walk,what is alike everywhere told once. -/
import Derived.Test.YtkobnljfoedmnaaWLast
import Derived.Test.YtkobnljfoedmnaaWWords
set_option linter.unusedVariables false
namespace Go.Proofs.YtkobnljfoedmnaaW.GCall
open Go.RowKit Go.Proofs.YtkobnljfoedmnaaW.PrintLast
variable {P : Program} {ops : Array Oper} {Q : Exit → Act → World → Prop}
theorem goesM_ {rest : List Oper} {oi : Oper} {a : Act} {w : World} (N : Option Tmp) {f : FuncId} {fn : Func} {as : Array Operand} {ts : Array TypeId} (hf : P.funcs[f]? = some fn) (args : Array Value)
  (h : Calls P f args w fun e w' => ∃ v,e = .returned v ∧ wpList P ops Q rest (a.put N v) w')
  (hd : oi.dst = N := by rfl) (hg : oi.guard = none := by rfl) (hname : (fn.name == "runtime.NumGoroutine") = false := by kernel_rfl) (hb : fn.body.isSome = true := by rfl)
  (hop : oi.op = .call { callee := .value (.func f),args := as,argTypes := ts } := by rfl)
  (hargs : as.map a.eval = args := by (try simp only [List.map_toArray,List.map_cons,List.map_nil]);first|done | rfl | (simp only [List.length_drop,List.length_take];rfl)) : wpList P ops Q (oi :: rest) a w :=
 goesL_ N hd hg hf hname hb args hop hargs h
end Go.Proofs.YtkobnljfoedmnaaW.GCall
namespace Go.Proofs.YtkobnljfoedmnaaW.GCall
abbrev Y : Bool := true
abbrev X : Bool := false
end Go.Proofs.YtkobnljfoedmnaaW.GCall
namespace Go.Proofs.YtkobnljfoedmnaaW.GCall
/-! Short names for what is applied again and again. -/
open Go.RowKit Go.Proofs.YtkobnljfoedmnaaW.PrintWords
theorem zkA {α : Type} {d : Kd α} {e : Nat} {w : World} {base : Nat} {ok : Nat → Prop} {v : Value} {xs : List α} (h : d.R e w base ok v xs) (o : Obj) : d.R e (w.alloc o) base ok v xs := Kd.R_alloc h o
theorem zkB {α : Type} {d : Kd α} {e : Nat} {w : World} {base : Nat} {ok : Nat → Prop} {v : Value} {xs : List α} (h : d.R e w base ok v xs) (m : Nat) : d.R e (w.drewN m) base ok v xs := Kd.R_drewN h m
theorem zkC {α : Type} {d : Kd α} {e : Nat} {w : World} {base : Nat} {ok : Nat → Prop} {v : Value} {xs : List α} (h : d.R e w base ok v xs) : d.R e w.drew base ok v xs := Kd.R_drew h
theorem zbA {w W : World} (h : Below w.heap.size w W) (o : Obj) : Below w.heap.size w (W.alloc o) := below_alloc h o
theorem zbB {B : Nat} {w W : World} (h : Below B w W) (n : Nat) : Below B w (W.drewN n) := pw_below_drewN h n
theorem zbC {B : Nat} {w W : World} (h : Below B w W) : Below B w W.drew := below_drew1 h
theorem zeA {w w1 : World} {g : Nat} {row : Option Nat} (h : KeepBut w w1 g row) (j : Nat) (u : Value) : KeepBut w (w1.setCell ⟨g,j,none⟩ u) g row := KeepBut.set_ h j u
theorem zeB {w W : World} {g : Nat} {row : Option Nat} (h : KeepBut w W g row) (m : Nat) : KeepBut w (W.drewN m) g row := keep_drewN h m
theorem zeC {w W : World} {g : Nat} {row : Option Nat} (h : KeepBut w W g row) : KeepBut w W.drew g row := keep_drew h
theorem zeD {w W : World} {g : Nat} (h : KeepBut w W g none) (o : Obj) : KeepBut w (W.alloc o) g none := keep_alloc h o
end Go.Proofs.YtkobnljfoedmnaaW.GCall
