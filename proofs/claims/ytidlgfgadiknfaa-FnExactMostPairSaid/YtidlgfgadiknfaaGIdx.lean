/- slices.IndexFunc and slices.ContainsFunc at a predicate that may lay blocks of its own, that is asked in order and may answer at some elements alone: over any program. -/
import Derived.Shelf.SlicesE.IndexFunc
import Derived.Shelf.SlicesQ.IndexFunc
import Derived.Test.YtidlgfgadiknfaaWWords
set_option linter.unusedVariables false
set_option linter.unusedSimpArgs false
namespace Go.Proofs.YtidlgfgadiknfaaW.GIdx
open Go Go.Proofs Go.Shelf Go.RowKit Go.Lib Go.Proofs.YtidlgfgadiknfaaW.PrintWords
variable {P : Program} {ρ : Ren} {α : Type}

def idxO (p : α → Option Bool) : List α → Nat → Option Int
 | [], _ => some (-1)
 | x :: l, i => (p x).bind fun b => if b = true then some (i : Int) else idxO p l (i + 1)
def anyO (p : α → Option Bool) : List α → Option Bool
 | [] => some false
 | x :: l => (p x).bind fun b => if b = true then some true else anyO p l
def allO (q : α → Option Bool) (l : List α) : Option Bool := (anyO (fun x => (q x).map (!·)) l).map (!·)
theorem C_spot {d : Kd α} {w : World} {A : Option Addr} {n : Nat} {xs : List α} (h : d.C w A n xs) (hn : 0 < n) (hs : 0 < d.sz) : ∃ b off, A = some ⟨b, off, none⟩ ∧ b < w.heap.size ∧ ∀ j x, xs[j]? = some x → ∃ c, c.length = d.sz ∧ d.K w x c ∧ ∀ i u, c[i]? = some u → w.cell? ⟨b, off + j * d.sz + i, none⟩ = some u := by
 obtain ⟨hl, _, h2⟩ := h
 obtain ⟨⟨b, off, sp⟩, rfl, hc⟩ := h2 hn
 have hpos : 0 < xs.length := by omega
 obtain ⟨c0, hl0, _, hc0⟩ := hc 0 _ (List.getElem?_eq_getElem hpos)
 have h00 : w.cell? ((⟨b, off, sp⟩ : Addr).add 0) = some c0[0] := by
  have := hc0 0 _ (List.getElem?_eq_getElem (by omega))
  simpa using this
 have e0 : (⟨b, off, sp⟩ : Addr).add 0 = ⟨b, off, sp⟩ := by simp [Addr.add]
 rw [e0] at h00
 have hsp : sp = none := World.cell?_spot h00
 subst hsp
 refine ⟨b, off, rfl, World.block_lt_of_cell? w _ h00, fun j x hx => ?_⟩
 obtain ⟨c, hl1, hK, hcc⟩ := hc j x hx
 refine ⟨c, hl1, hK, fun i u hu => ?_⟩
 have := hcc i u hu
 rw [Addr.add_lit, ← Nat.add_assoc] at this
 exact this

end Go.Proofs.YtidlgfgadiknfaaW.GIdx
