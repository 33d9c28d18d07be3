/- slices.DeleteFunc over a row of the call's own, of elements of any kind, at a predicate that may lay blocks of its own: over any program. -/
import Derived.Shelf.SlicesE.DeleteFunc
import Derived.Test.YtidlgfgadiknfaaGIdx
set_option linter.unusedVariables false
set_option linter.unusedSimpArgs false
namespace Go.Proofs.YtidlgfgadiknfaaW.GDel
open Go Go.Proofs Go.Shelf Go.RowKit Go.Lib Go.Proofs.YtidlgfgadiknfaaW.PrintWords Go.Proofs.YtidlgfgadiknfaaW.GIdx
variable {P : Program} {ρ : Ren} {α : Type}

structure n10 (P : Program) (ρ : Ren) : Prop where
 mixed : P.follows .mixedOrders = true
 f6 : Bears P (ρ.f 6) (SlBodyH.n6 ρ)
 f10 : Bears P (ρ.f 10) (SlBodyH.n10 ρ)
 t0 : P.underlying (ρ.t 0) = some (TypeDesc.tuple #[])
 a0 : ∀ w, (isAgg (ρ.t 0)).run P w = .ok false w
 z0 : ∀ w, (Go.sizeOf (ρ.t 0)).run P w = .ok 1 w
 v0 : ∀ w, (zeroValue (ρ.t 0)).run P w = .ok (Value.tuple #[]) w
 t3 : P.underlying (ρ.t 3) = some (TypeDesc.int IntKind.i64)
 a3 : ∀ w, (isAgg (ρ.t 3)).run P w = .ok false w
 z3 : ∀ w, (Go.sizeOf (ρ.t 3)).run P w = .ok 1 w
 v3 : ∀ w, (zeroValue (ρ.t 3)).run P w = .ok (Value.int IntKind.i64 0) w
 t4 : P.underlying (ρ.t 4) = some (TypeDesc.bool)
 a4 : ∀ w, (isAgg (ρ.t 4)).run P w = .ok false w
 z4 : ∀ w, (Go.sizeOf (ρ.t 4)).run P w = .ok 1 w
 v4 : ∀ w, (zeroValue (ρ.t 4)).run P w = .ok (Value.bool false) w
 t22 : P.underlying (ρ.t 22) = some (TypeDesc.slice (ρ.t 23))
 a22 : ∀ w, (isAgg (ρ.t 22)).run P w = .ok false w
 z22 : ∀ w, (Go.sizeOf (ρ.t 22)).run P w = .ok 1 w
 v22 : ∀ w, (zeroValue (ρ.t 22)).run P w = .ok (Value.slice none 0 0) w
 t25 : P.underlying (ρ.t 25) = some (TypeDesc.func #[ρ.t 23] #[ρ.t 4] false)
 a25 : ∀ w, (isAgg (ρ.t 25)).run P w = .ok false w
 z25 : ∀ w, (Go.sizeOf (ρ.t 25)).run P w = .ok 1 w
 v25 : ∀ w, (zeroValue (ρ.t 25)).run P w = .ok (Value.nilFunc) w

theorem grownBy_below {w w1 : World} (row : Option Nat) (h : Below w.heap.size w w1) : w.grownBy w1 row := ⟨h.os, h.tape, h.output, h.size, fun j hj _ => h.block j hj⟩
end Go.Proofs.YtidlgfgadiknfaaW.GDel
