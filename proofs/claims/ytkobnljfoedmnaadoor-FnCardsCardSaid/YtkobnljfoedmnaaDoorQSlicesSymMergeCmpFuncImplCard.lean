import Derived.Test.YtkobnljfoedmnaaDoorQSlicesSymMergeCmpFuncImplCardC
namespace Go.Proofs.YtkobnljfoedmnaaDoor.Q
open Go.RowKit Go.Proofs.YtkobnljfoedmnaaDoorW.PrintWords Go.Proofs.YtkobnljfoedmnaaDoorW.PrintLast Go.Proofs.YtkobnljfoedmnaaDoorW.PrintMore Go.Proofs.YtkobnljfoedmnaaDoorW.GCall
attribute [local go_sem] max2_int min2_int max_two min_two max_three min_three max_four min_four
set_option linter.unusedVariables false
set_option maxHeartbeats 3000000
set_option maxRecDepth 100000
set_option linter.unusedSimpArgs false
theorem slices_symMergeCmpFunc_impl_Card.calls (p : ByteArray -> Int -> Int -> ByteArray -> Int -> Int -> Option Int) (k : Nat) : ∀ (P0_ : Nat -> Prop) (u9000_ : Value) (l0 : List (S94)) (a1 : Int) (a2 : Int) (a3 : Int) (a4 : Int) (r : List (S94)) (w0 : World) (C_ : Go.Proofs.YtkobnljfoedmnaaDoorW.GCmp.CmpC Tryd.prog w0 p) (w : World) (hB : Below w0.heap.size w0 w) (ho0 : Kd.R k94 94 w w0.heap.size P0_ u9000_ l0) (h : slices_symMergeCmpFunc_impl_Card.f p k l0 a1 a2 a3 a4 = some r),
  Calls Tryd.prog 128 #[u9000_,.int .i64 a1,.int .i64 a2,.int .i64 a3,.func (.func C_.g) #[] C_.lb] w fun e w' => e = .returned (.tuple #[]) ∧ Kd.R k94 94 w' w0.heap.size (fun k_ => (P0_ k_ ∨ w.heap.size <= k_)) u9000_ r ∧ Below w0.heap.size w0 w' ∧ Kept w w' (fun k_ => P0_ k_) := by
 induction k using Nat.strongRecOn with
 | _ k ih =>
 intro P0_ u9000_ l0 a1 a2 a3 a4 r w0 C_ w hB ho0 h;cases k with
 | zero => exact absurd h (by simp [slices_symMergeCmpFunc_impl_Card.f])
 | succ k =>
 by_cases c6 : (wrap64 (a2 - a1)) = 1
 ·exact slices_symMergeCmpFunc_impl_Card.callsA p k ih P0_ u9000_ l0 a1 a2 a3 a4 r w0 C_ w hB ho0 h c6
 by_cases c33 : (wrap64 (a3 - a2)) = 1
 ·exact slices_symMergeCmpFunc_impl_Card.callsB p k ih P0_ u9000_ l0 a1 a2 a3 a4 r w0 C_ w hB ho0 h ⟨c6,c33⟩
 exact slices_symMergeCmpFunc_impl_Card.callsC p k ih P0_ u9000_ l0 a1 a2 a3 a4 r w0 C_ w hB ho0 h ⟨c6,c33⟩
end Go.Proofs.YtkobnljfoedmnaaDoor.Q
