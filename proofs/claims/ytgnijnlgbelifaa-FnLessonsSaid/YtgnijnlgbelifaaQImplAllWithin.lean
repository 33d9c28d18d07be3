-- Written for the seat Ytgnijnlgbelifaa by a program of this session (wip/tool/gx.py) out of the translation. Lean checks it.
import Derived.Test.YtgnijnlgbelifaaQ0
import Derived.Test.YtgnijnlgbelifaaQBSpecDrawLessonsOf
import Derived.Shelf.SlicesE.IndexFunc
import Derived.Ground.SlgfProg
import Derived.Lib.SliceRun
import Derived.Test.YtgnijnlgbelifaaWFoot
import Derived.Test.YtgnijnlgbelifaaWKept
import Derived.Test.YtgnijnlgbelifaaWShare
namespace Go.Proofs.Ytgnijnlgbelifaa.Q
open Go.RowKit Go.Proofs.YtgnijnlgbelifaaW.PrintWords Go.Proofs.YtgnijnlgbelifaaW.PrintLast Go.Proofs.YtgnijnlgbelifaaW.PrintMore
attribute [local go_sem] max2_int min2_int max_two min_two max_three min_three max_four min_four   -- for this text's walks alone
set_option linter.unusedVariables false
set_option linter.unusedSimpArgs false

/-! ### impl_allWithin: function 35 -/
def impl_allWithin.f (l0 : List Int) (a1 a2 : Int) : Option Bool := some (l0.all fun x => decide (a1 ≤ x ∧ x ≤ a2))

set_option maxHeartbeats 1000000
end Go.Proofs.Ytgnijnlgbelifaa.Q
namespace Go.Proofs
open Go.Shelf
shelf_lay_g SlLaysH.n8 Slgf 8 at Try 58 as Try.laysC58
end Go.Proofs
namespace Go.Proofs.Ytgnijnlgbelifaa.Q
open Go.RowKit Go.Lib Go.Proofs.YtgnijnlgbelifaaW.PrintWords Go.Proofs.YtgnijnlgbelifaaW.PrintLast Go.Proofs.YtgnijnlgbelifaaW.PrintMore
set_option linter.unusedVariables false
set_option linter.unusedSimpArgs false
theorem impl_allWithin.eq (l : List Int) (a b : Int) : (l.all fun x => decide (a ≤ x ∧ x ≤ b)) = !(l.any fun x => !(decide (a ≤ x ∧ x ≤ b))) := by
 induction l with
 | nil => rfl
 | cons x l ih => rw [List.all_cons,List.any_cons,ih,Bool.not_or,Bool.not_not]
set_option maxHeartbeats 400000 in
theorem impl_allWithin.pred (a b : Int) (B : Nat) (w : World) (hB : B + 1 < w.heap.size) (ha : w.cell? ⟨B,0,none⟩ = some (.int .i64 a)) (hb : w.cell? ⟨B + 1,0,none⟩ = some (.int .i64 b)) :
  PredAt Try.prog 59 #[.pointer (some ⟨B,0,none⟩),.pointer (some ⟨B + 1,0,none⟩)] (Value.int .i64) (fun x => !(decide (a ≤ x ∧ x ≤ b))) w := fun W x hbel => by
 have hca : W.cell? ⟨B,0,none⟩ = some (.int .i64 a) := (hbel.cell (p := ⟨B,0,none⟩) (by show B < _;omega)).trans ha
 have hcb : W.cell? ⟨B + 1,0,none⟩ = some (.int .i64 b) := (hbel.cell (p := ⟨B + 1,0,none⟩) hB).trans hb
 have hf : impl_within.f x a b = some (decide (a ≤ x ∧ x ≤ b)) := by
  unfold impl_within.f
  split <;> simp <;> omega
 have hcon := fun W => impl_within.calls x a b (decide (a ≤ x ∧ x ≤ b)) W hf
 show Calls Try.prog 59 #[.int .i64 x,.pointer (some ⟨B,0,none⟩),.pointer (some ⟨B + 1,0,none⟩)] W _
 show Calls Try.prog 59 #[.int .i64 x,.pointer (some ⟨B,0,none⟩),.pointer (some ⟨B + 1,0,none⟩)] W fun e w' => e = .returned (.bool (!(decide (a ≤ x ∧ x ≤ b)))) ∧ ∃ q,w' = W.drewN q
 generalize decide (a ≤ x ∧ x ≤ b) = r at hcon ⊢
 clear hf hbel hB
 generalize B + 1 = B1 at hcb ⊢
 go_enter Try.func59,Try.ntmps59
 go_wp2_with (go_at_call 23;refine (hcon _).mono ?_;rintro e w' ⟨rfl,⟨q,rfl⟩⟩)
 go_ret
 exact ⟨rfl,_,rfl⟩
theorem impl_allWithin.cells {w : World} {A : Option Addr} {n : Nat} {xs : List Int} (h : Kd.C (Kd.int .i64) w A n xs) (hn : 0 < n) : ∃ b off,A = some ⟨b,off,none⟩ ∧ ∀ j,j < n → w.cell? ⟨b,off + j,none⟩ = some (.int .i64 (xs.getD j 0)) := by
 obtain ⟨⟨b,off,sp⟩,rfl,h0⟩ := Kd.at_int h 0 (by omega) (by omega)
 have e0 : (⟨b,off,sp⟩ : Addr).add 0 = ⟨b,off,sp⟩ := by simp [Addr.add]
 have hs : sp = none := by
  have := World.cell?_spot (show w.cell? ⟨b,off,sp⟩ = _ by rw [← e0];exact h0)
  exact this
 subst hs
 refine ⟨b,off,rfl,fun j hj => ?_⟩
 have h1 := Kd.foot_int h (j : Int) (by omega) (by omega)
 have e1 : (⟨b,off,none⟩ : Addr).add ((j : Int)).toNat = ⟨b,off + j,none⟩ := by unfold Addr.add;split <;> simp_all
 rw [e1] at h1
 rw [h1]
 simp [rd]
set_option maxHeartbeats 1000000 in
theorem impl_allWithin.calls (A0 : Option Addr) (c0 : Nat) (l0 : List Int) (a1 a2 : Int) (r : Bool) (w : World) (hr0 : Kd.C (Kd.int .i64) w A0 l0.length l0) (hc0 : l0.length ≤ c0) (h : impl_allWithin.f l0 a1 a2 = some r) :
  Calls Try.prog 35 #[.slice A0 l0.length c0,.int .i64 a1,.int .i64 a2] w fun e w' => e = .returned (.bool r) ∧ Below w.heap.size w w' := by
 obtain rfl := Option.some.inj h
 rw [impl_allWithin.eq]
 have hl : l0.length ≤ 9223372036854775807 := Kd.C_max hr0
 have eg : ∀ args w,(callFunc 59 args).run Try.prog w = .ok (.enter 59 args) w := enters_of Try.func59 (by kernel_rfl) rfl
 have hbel : Below w.heap.size w ((w.alloc (.cells #[.int .i64 a1] 3)).alloc (.cells #[.int .i64 a2] 3)) := below_alloc (below_alloc (Below.refl _ _) _) _
 by_cases h0 : l0 = []
 ·subst h0
  have hcon := AnyE.slices_ContainsFunc_empty Try.laysC58 A0 c0
  change ∀ fv w,Calls Try.prog 58 _ _ _ at hcon
  go_enter Try.func35,Try.ntmps35
  go_wp2_with (go_at_call 58;refine (hcon _ _).mono ?_;rintro e w' ⟨rfl,rfl⟩)
  go_ret
  exact ⟨rfl,hbel⟩
 have hpos : 0 < l0.length := List.length_pos_iff.2 h0
 obtain ⟨b,off,rfl,hcell⟩ := impl_allWithin.cells hr0 hpos
 have hcon := AnyE.slices_ContainsFunc Try.laysC58 (Value.int .i64) (fun x => !(decide (a1 ≤ x ∧ x ≤ a2))) 59 #[.pointer (some ⟨w.heap.size,0,none⟩),.pointer (some ⟨w.heap.size + 1,0,none⟩)] eg b off l0.length c0 l0 ((w.alloc (.cells #[.int .i64 a1] 3)).alloc (.cells #[.int .i64 a2] 3))
  (impl_allWithin.pred a1 a2 w.heap.size _ (by simp) (by go_simp) (by go_simp)) (Nat.le_refl _) hl
  (fun j hj => Lib.cell?_alloc_some _ (Lib.cell?_alloc_some _ (by rw [hcell j hj,List.getD_eq_getElem?_getD,List.getElem?_eq_getElem hj,getElem!_pos l0 j hj];rfl)))
 rw [List.take_length] at hcon
 change Calls Try.prog 58 _ _ _ at hcon
 clear hcell hr0
 generalize (l0.any fun x => !(decide (a1 ≤ x ∧ x ≤ a2))) = r at hcon ⊢
 go_enter Try.func35,Try.ntmps35
 go_wp2_with (go_at_call 58;refine hcon.mono ?_;rintro e w' ⟨rfl,q,rfl⟩)
 go_ret
 exact ⟨rfl,below_drewN' hbel q⟩


end Go.Proofs.Ytgnijnlgbelifaa.Q
