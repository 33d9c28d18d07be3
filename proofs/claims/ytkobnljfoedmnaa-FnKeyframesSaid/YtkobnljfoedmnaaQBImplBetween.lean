-- Written for the seat Ytkobnljfoedmnaa by a program of this session (wip/tool/gx.py) out of the translation. Lean checks it.
import Derived.Test.YtkobnljfoedmnaaQ0
import Derived.StillTailTactics
import Derived.Outline
import Derived.Test.YtkobnljfoedmnaaWKept
import Derived.Test.YtkobnljfoedmnaaWShare
namespace Go.Proofs.Ytkobnljfoedmnaa.Q
open Go.RowKit Go.Proofs.YtkobnljfoedmnaaW.PrintWords Go.Proofs.YtkobnljfoedmnaaW.PrintLast Go.Proofs.YtkobnljfoedmnaaW.PrintMore
attribute [local go_sem] max2_int min2_int max_two min_two max_three min_three max_four min_four   -- for this text's walks alone
set_option linter.unusedVariables false
set_option linter.unusedSimpArgs false

/-! ### impl_between: function 57 -/
def impl_between.div (a b : Int) : Int := if Int.tmod a b < 0 then wrap64 (wrap64 (Int.tdiv a b) - 1) else wrap64 (Int.tdiv a b)
def impl_between.even (from_ to_ fr a b : Int) : Int := wrap64 (from_ + impl_between.div (wrap64 (wrap64 (to_ - from_) * wrap64 (fr - a))) (wrap64 (b - a)))
def impl_between.f (a0_0 a0_1 a0_2 a0_3 a0_4 a1_0 a1_1 a1_2 a1_3 a1_4 a2 : Int) : Option (Int × Int × Int × Int × Int) := if wrap64 (a1_0 - a0_0) = 0 then none else some (a2, impl_between.even a0_1 a1_1 a2 a0_0 a1_0, impl_between.even a0_2 a1_2 a2 a0_0 a1_0, impl_between.even a0_3 a1_3 a2 a0_0 a1_0, impl_between.even a0_4 a1_4 a2 a0_0 a1_0)
set_option maxHeartbeats 400000 in
theorem impl_between.div_calls (a b : Int) (hb : (b = 0) = False) (w : World) : Calls Try.prog 85 #[.int .i64 a, .int .i64 b] w fun e w' => e = .returned (.int .i64 (impl_between.div a b)) ∧ w' = w := by
 unfold impl_between.div
 have hb2 : (b == 0) = false := by simpa using hb
 by_cases h : Int.tmod a b < 0
 ·rw [if_pos h]
  have h2 : decide (Int.tmod a b < 0) = true := decide_eq_true h
  go_enter Try.func85, Try.ntmps85
  go_wp2
  go_ret
  exact ⟨rfl, rfl⟩
 ·rw [if_neg h]
  have h2 : decide (Int.tmod a b < 0) = false := decide_eq_false h
  go_enter Try.func85, Try.ntmps85
  go_wp2
  go_ret
  exact ⟨rfl, rfl⟩
set_option maxHeartbeats 400000 in
theorem impl_between.even_calls (from_ to_ fr a b : Int) (pf pa pb : Nat) (w : World) (hb : (wrap64 (b - a) = 0) = False) (h0 : w.cell? ⟨pf, 0, none⟩ = some (.int .i64 fr)) (h1 : w.cell? ⟨pa, 0, none⟩ = some (.int .i64 a)) (h2 : w.cell? ⟨pb, 0, none⟩ = some (.int .i64 b)) :
  Calls Try.prog 84 #[.int .i64 from_, .int .i64 to_, .pointer (some ⟨pf, 0, none⟩), .pointer (some ⟨pa, 0, none⟩), .pointer (some ⟨pb, 0, none⟩)] w fun e w' => e = .returned (.int .i64 (impl_between.even from_ to_ fr a b)) ∧ w' = w := by
 unfold impl_between.even
 go_enter Try.func84, Try.ntmps84
 go_wp2_with (go_at_call 85; refine (impl_between.div_calls _ _ hb _).mono ?_; rintro e w' ⟨rfl, rfl⟩)
 go_ret
 exact ⟨rfl, rfl⟩
set_option maxHeartbeats 1000000 in
set_option maxRecDepth 100000 in
theorem impl_between.all_calls (a0 a1 a2 a3 a4 b0 b1 b2 b3 b4 fr : Int) (w : World) (hb : (wrap64 (b0 - a0) = 0) = False) :
  Calls Try.prog 57 #[.agg #[.int .i64 a0, .int .i64 a1, .int .i64 a2, .int .i64 a3, .int .i64 a4], .agg #[.int .i64 b0, .int .i64 b1, .int .i64 b2, .int .i64 b3, .int .i64 b4], .int .i64 fr] w
   fun e w' => e = .returned (.agg #[.int .i64 fr, .int .i64 (impl_between.even a1 b1 fr a0 b0), .int .i64 (impl_between.even a2 b2 fr a0 b0), .int .i64 (impl_between.even a3 b3 fr a0 b0), .int .i64 (impl_between.even a4 b4 fr a0 b0)]) ∧ Below w.heap.size w w' := by
 have hu52 := Try.underlying52
 go_enter Try.func57, Try.ntmps57
 go_wp2_with fail
 obtain ⟨w1, hw1⟩ : ∃ w1 : World, w1 = (((w.alloc (Obj.cells #[Value.int IntKind.i64 a0, Value.int IntKind.i64 a1, Value.int IntKind.i64 a2, Value.int IntKind.i64 a3, Value.int IntKind.i64 a4] 52)).alloc (Obj.cells #[Value.int IntKind.i64 b0, Value.int IntKind.i64 b1, Value.int IntKind.i64 b2, Value.int IntKind.i64 b3, Value.int IntKind.i64 b4] 52)).alloc (Obj.cells #[Value.int IntKind.i64 fr] 3)).alloc (Obj.cells #[Value.int IntKind.i64 0, Value.int IntKind.i64 0, Value.int IntKind.i64 0, Value.int IntKind.i64 0, Value.int IntKind.i64 0] 52) := ⟨_, rfl⟩
 have ca0 : w1.cell? ⟨w.heap.size, 0, none⟩ = some (.int .i64 a0) := by rw [hw1]; go_simp
 have ca1 : w1.cell? ⟨w.heap.size, 1, none⟩ = some (.int .i64 a1) := by rw [hw1]; go_simp
 have ca2 : w1.cell? ⟨w.heap.size, 2, none⟩ = some (.int .i64 a2) := by rw [hw1]; go_simp
 have ca3 : w1.cell? ⟨w.heap.size, 3, none⟩ = some (.int .i64 a3) := by rw [hw1]; go_simp
 have ca4 : w1.cell? ⟨w.heap.size, 4, none⟩ = some (.int .i64 a4) := by rw [hw1]; go_simp
 have cb0 : w1.cell? ⟨w.heap.size + 1, 0, none⟩ = some (.int .i64 b0) := by rw [hw1]; go_simp
 have cb1 : w1.cell? ⟨w.heap.size + 1, 1, none⟩ = some (.int .i64 b1) := by rw [hw1]; go_simp
 have cb2 : w1.cell? ⟨w.heap.size + 1, 2, none⟩ = some (.int .i64 b2) := by rw [hw1]; go_simp
 have cb3 : w1.cell? ⟨w.heap.size + 1, 3, none⟩ = some (.int .i64 b3) := by rw [hw1]; go_simp
 have cb4 : w1.cell? ⟨w.heap.size + 1, 4, none⟩ = some (.int .i64 b4) := by rw [hw1]; go_simp
 have cf : w1.cell? ⟨w.heap.size + 1 + 1, 0, none⟩ = some (.int .i64 fr) := by rw [hw1]; go_simp
 have BK : Aside0 (w1.heap[w.heap.size + 1 + 1 + 1]? = some (.cells #[.int .i64 0, .int .i64 0, .int .i64 0, .int .i64 0, .int .i64 0] 52 (0, 0))) := ⟨by
  have e_ := heap_alloc_new (((w.alloc (Obj.cells #[Value.int IntKind.i64 a0, Value.int IntKind.i64 a1, Value.int IntKind.i64 a2, Value.int IntKind.i64 a3, Value.int IntKind.i64 a4] 52)).alloc (Obj.cells #[Value.int IntKind.i64 b0, Value.int IntKind.i64 b1, Value.int IntKind.i64 b2, Value.int IntKind.i64 b3, Value.int IntKind.i64 b4] 52)).alloc (Obj.cells #[Value.int IntKind.i64 fr] 3)) (Obj.cells #[Value.int IntKind.i64 0, Value.int IntKind.i64 0, Value.int IntKind.i64 0, Value.int IntKind.i64 0, Value.int IntKind.i64 0] 52)
  have z_ : (((w.alloc (Obj.cells #[Value.int IntKind.i64 a0, Value.int IntKind.i64 a1, Value.int IntKind.i64 a2, Value.int IntKind.i64 a3, Value.int IntKind.i64 a4] 52)).alloc (Obj.cells #[Value.int IntKind.i64 b0, Value.int IntKind.i64 b1, Value.int IntKind.i64 b2, Value.int IntKind.i64 b3, Value.int IntKind.i64 b4] 52)).alloc (Obj.cells #[Value.int IntKind.i64 fr] 3)).heap.size = w.heap.size + 1 + 1 + 1 := by simp
  rw [z_] at e_
  rw [hw1]; exact e_⟩
 have HB : Aside0 (Below w.heap.size w w1) := ⟨by rw [hw1]; exact below_alloc (below_alloc (below_alloc (below_alloc (Below.refl _ _) _) _) _) _⟩
 rw [← hw1]
 clear hw1
 have GE : Aside0 (w.heap.size ≤ w.heap.size + 1 + 1 + 1) := ⟨by omega⟩
 generalize w.heap.size + 1 + 1 + 1 = g3 at *
 generalize w.heap.size + 1 + 1 = g2 at *
 generalize w.heap.size + 1 = g1 at *
 generalize hg0 : w.heap.size = g0 at *
 have HG0 := Aside0.mk hg0
 clear hg0
 go_still_tail 26, (by kernel_rfl)
 still_call (impl_between.even_calls a1 b1 fr a0 b0 g2 g0 g1 _ hb cf ca0 cb0)
 repeat still_step
 still_call (impl_between.even_calls a2 b2 fr a0 b0 g2 g0 g1 _ hb cf ca0 cb0)
 repeat still_step
 still_call (impl_between.even_calls a3 b3 fr a0 b0 g2 g0 g1 _ hb cf ca0 cb0)
 repeat still_step
 still_call (impl_between.even_calls a4 b4 fr a0 b0 g2 g0 g1 _ hb cf ca0 cb0)
 repeat still_step
 refine wpStill_nil ?_
 change wpList _ _ _ _ _ w1.drew
 have HB2 := Aside0.mk (below_drew1 HB.out)
 have BK2 := Aside0.mk (blk_drew BK.out)
 clear HB BK ca0 ca1 ca2 ca3 ca4 cb0 cb1 cb2 cb3 cb4 cf
 generalize w1.drew = w2 at *
 have z0 : w2.cell? ⟨g3, 0, none⟩ = some (.int .i64 0) := (blk_cell BK2.out 0).trans rfl
 have z1 : w2.cell? ⟨g3, 1, none⟩ = some (.int .i64 0) := (blk_cell BK2.out 1).trans rfl
 have z2 : w2.cell? ⟨g3, 2, none⟩ = some (.int .i64 0) := (blk_cell BK2.out 2).trans rfl
 have z3 : w2.cell? ⟨g3, 3, none⟩ = some (.int .i64 0) := (blk_cell BK2.out 3).trans rfl
 have z4 : w2.cell? ⟨g3, 4, none⟩ = some (.int .i64 0) := (blk_cell BK2.out 4).trans rfl
 have f0 := blk_frozen BK2.out 0
 have f1 := blk_frozen BK2.out 1
 have f2 := blk_frozen BK2.out 2
 have f3 := blk_frozen BK2.out 3
 have f4 := blk_frozen BK2.out 4
 go_wp2
 refine bodyPost_ret (v := .agg #[.int .i64 fr, .int .i64 (impl_between.even a1 b1 fr a0 b0), .int .i64 (impl_between.even a2 b2 fr a0 b0), .int .i64 (impl_between.even a3 b3 fr a0 b0), .int .i64 (impl_between.even a4 b4 fr a0 b0)]) ?_ rfl ?_
 ·simp [results, Try.results57, go_sem, z0, z1, z2, z3, z4]
 ·refine ⟨rfl, ?_⟩
  have e_ := HG0.out
  subst e_
  repeat (first | exact HB2.out | refine below_set ?_ GE.out)
theorem impl_between.calls (a0_0 a0_1 a0_2 a0_3 a0_4 a1_0 a1_1 a1_2 a1_3 a1_4 a2 : Int) (r1 r2 r3 r4 r5 : Int) (w : World) (h : impl_between.f a0_0 a0_1 a0_2 a0_3 a0_4 a1_0 a1_1 a1_2 a1_3 a1_4 a2 = some (r1, r2, r3, r4, r5)) :
  Calls Try.prog 57 #[.agg #[.int .i64 a0_0, .int .i64 a0_1, .int .i64 a0_2, .int .i64 a0_3, .int .i64 a0_4], .agg #[.int .i64 a1_0, .int .i64 a1_1, .int .i64 a1_2, .int .i64 a1_3, .int .i64 a1_4], .int .i64 a2] w fun e w' => e = .returned (.agg #[.int .i64 r1, .int .i64 r2, .int .i64 r3, .int .i64 r4, .int .i64 r5]) ∧ Below w.heap.size w w' := by
 unfold impl_between.f at h
 split at h
 ·cases h
 ·rename_i hb
  have h' := Option.some.inj h
  simp only [Prod.mk.injEq] at h'
  obtain ⟨rfl, rfl, rfl, rfl, rfl⟩ := h'
  exact impl_between.all_calls _ _ _ _ _ _ _ _ _ _ _ w (eq_false hb)

end Go.Proofs.Ytkobnljfoedmnaa.Q
