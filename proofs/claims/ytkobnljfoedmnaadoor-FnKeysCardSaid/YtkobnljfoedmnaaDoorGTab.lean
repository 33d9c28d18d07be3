/- A table of the library's (a package-level variable of integers),carried to every later world that leaves the elder blocks alone: over any program. -/
import Derived.Lib.LaidTab
import Derived.Lib.ItoaNum
import Derived.Lib.Bytealg
import Derived.Test.YtkobnljfoedmnaaDoorWWords
set_option linter.unusedVariables false
namespace Go.Proofs.YtkobnljfoedmnaaDoorW.GTab
open Go Go.Proofs Go.RowKit Go.Proofs.YtkobnljfoedmnaaDoorW.PrintWords
theorem tab_below {P : Program} {w w' : World} {name : String} {k : IntKind} {zs : List Int} (h : Go.Lib.TabIs P w name k zs) (hb : Below w.heap.size w w') : Go.Lib.TabIs P w' name k zs := by
 unfold Go.Lib.TabIs World.var? at h ⊢
 cases hg : P.globalNamed name with
 | none => rw [hg] at h;cases h
 | some g =>
  rw [hg] at h
  simp only [Option.bind_some] at h ⊢
  have hlt : g < w.heap.size := by
   rcases Nat.lt_or_ge g w.heap.size with h' | h'
   ·exact h'
   ·rw [Array.getElem?_eq_none h'] at h;cases h
  rw [hb.block g hlt]
  exact h
end Go.Proofs.YtkobnljfoedmnaaDoorW.GTab
