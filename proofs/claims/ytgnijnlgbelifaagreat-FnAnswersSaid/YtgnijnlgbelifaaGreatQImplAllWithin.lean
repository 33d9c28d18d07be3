import Derived.Test.YtgnijnlgbelifaaGreatQBLawsBig
import Derived.Shelf.SlicesE.IndexFunc
import Derived.Lib.SliceRun
namespace Go.Proofs.YtgnijnlgbelifaaGreat.Q
open RowKit W.PrintWords W.PrintLast W.PrintMore W.GCall
attribute [local go_sem] Ebi Ebj Ebx Eby Ebb Ebc Ebk Ebl
set_option linter.unusedVariables false
set_option linter.unusedSimpArgs false
def FP.f (l0 : List Int) (a1 a2 : Int) : Option Bool := some (l0.all fun x => decide (a1 <= x ∧ x <= a2))
set_option maxHeartbeats 1000000
end Go.Proofs.YtgnijnlgbelifaaGreat.Q
namespace Go.Proofs
open Go.Shelf
shelf_lay_g SlLaysH.n8 Slgf 8 at Tryz 131 as Tryz.laysC131
end Go.Proofs
namespace Go.Proofs.YtgnijnlgbelifaaGreat.Q
open RowKit Lib W.PrintWords W.PrintLast W.PrintMore W.GCall
set_option linter.unusedVariables false
set_option linter.unusedSimpArgs false
theorem FP.eq (l : List Int) (a b : Int) : (l.all fun x => decide (a <= x ∧ x <= b)) = !(l.any fun x => !(decide (a <= x ∧ x <= b))) := by
 induction l with
 | nil => rfl
 | cons x l ih => rw [List.all_cons,List.any_cons,ih,Bool.not_or,Bool.not_not]
set_option maxHeartbeats 400000 in
theorem FP.pred (a b : Int) (B : Nat) (w : World) (hB : B + 1 < w.heap.size) (ha : w.cell? ⟨B,0,none⟩ = some (.int .i64 a)) (hb : w.cell? ⟨B + 1,0,none⟩ = some (.int .i64 b)) :
  PredAt Tryz.prog 132 #[.pointer (some ⟨B,0,none⟩),.pointer (some ⟨B + 1,0,none⟩)] (Value.int .i64) (fun x => !(decide (a <= x ∧ x <= b))) w := fun W x hbel => by
 have hca : W.cell? ⟨B,0,none⟩ = some (.int .i64 a) := (hbel.cell (p := ⟨B,0,none⟩) (by show B < _;omega)).trans ha;have hcb : W.cell? ⟨B + 1,0,none⟩ = some (.int .i64 b) := (hbel.cell (p := ⟨B + 1,0,none⟩) hB).trans hb;have hf : FB.f x a b = some (decide (a <= x ∧ x <= b)) := by
  unfold FB.f
  split <;> simp <;> omega
 have hcon := fun W => FB.calls x a b (decide (a <= x ∧ x <= b)) W hf
 show Calls Tryz.prog 132 #[.int .i64 x,.pointer (some ⟨B,0,none⟩),.pointer (some ⟨B + 1,0,none⟩)] W _;show Calls Tryz.prog 132 #[.int .i64 x,.pointer (some ⟨B,0,none⟩),.pointer (some ⟨B + 1,0,none⟩)] W fun e w' => e = .returned (.bool (!(decide (a <= x ∧ x <= b)))) ∧ ∃ q,w' = W.drewN q
 generalize decide (a <= x ∧ x <= b) = r at hcon ⊢;clear hf hbel hB;generalize B + 1 = B1 at hcb ⊢;go_enter Tryz.func132,Tryz.ntmps132
 go_wp2_with (go_at_call 62;refine (hcon _).mono ?_;rintro e w' ⟨rfl,⟨q,rfl⟩⟩)
 go_ret;exact ⟨rfl,_,rfl⟩
theorem FP.cells {w : World} {A : Option Addr} {n : Nat} {xs : List Int} (h : Kd.C (Kd.int .i64) w A n xs) (hn : 0 < n) : ∃ b off,A = some ⟨b,off,none⟩ ∧ ∀ j,j < n -> w.cell? ⟨b,off + j,none⟩ = some (.int .i64 (xs.getD j 0)) := by
 obtain ⟨⟨b,off,sp⟩,rfl,h0⟩ := Kd.Ean h 0 (by omega) (by omega);have e0 : (⟨b,off,sp⟩ : Addr).add 0 = ⟨b,off,sp⟩ := by simp [Addr.add]
 have hs : sp = none := by
  have := World.cell?_spot (show w.cell? ⟨b,off,sp⟩ = _ by rw [<- e0];exact h0);exact this
 subst hs;refine ⟨b,off,rfl,fun j hj => ?_⟩;have h1 := Kd.Eln h (j : Int) (by omega) (by omega);have e1 : (⟨b,off,none⟩ : Addr).add ((j : Int)).toNat = ⟨b,off + j,none⟩ := by unfold Addr.add;split <;> simp_all
 rw [e1] at h1;rw [h1];simp [rd]
set_option maxHeartbeats 1000000 in
theorem FP.calls (A0 : Option Addr) (c0 : Nat) (l0 : List Int) (a1 a2 : Int) (r : Bool) (w : World) (d : Kd.C (Kd.int .i64) w A0 l0.length l0) (aa : l0.length <= c0) (h : FP.f l0 a1 a2 = some r) :
  Calls Tryz.prog 74 #[.slice A0 l0.length c0,.int .i64 a1,.int .i64 a2] w fun e w' => e = .returned (.bool r) ∧ Below w.heap.size w w' := by
 obtain rfl := Option.some.inj h;rw [FP.eq];have hl : l0.length <= 9223372036854775807 := Kd.C_max d;have eg : ∀ args w,(callFunc 132 args).run Tryz.prog w = .ok (.enter 132 args) w := enters_of Tryz.func132 (by kernel_rfl) rfl;have hbel : Below w.heap.size w ((w.alloc (.cells #[.int .i64 a1] 3)).alloc (.cells #[.int .i64 a2] 3)) := Eav (Eav (Below.refl _ _) _) _;by_cases h0 : l0 = []
 ·subst h0;have hcon := AnyE.slices_ContainsFunc_empty Tryz.laysC131 A0 c0;change ∀ fv w,Calls Tryz.prog 131 _ _ _ at hcon;go_enter Tryz.func74,Tryz.ntmps74
  go_wp2_with (go_at_call 131;refine (hcon _ _).mono ?_;rintro e w' ⟨rfl,rfl⟩)
  go_ret;exact ⟨rfl,hbel⟩
 have hpos : 0 < l0.length := List.length_pos_iff.2 h0;obtain ⟨b,off,rfl,hcell⟩ := FP.cells d hpos;have hcon := AnyE.slices_ContainsFunc Tryz.laysC131 (Value.int .i64) (fun x => !(decide (a1 <= x ∧ x <= a2))) 132 #[.pointer (some ⟨w.heap.size,0,none⟩),.pointer (some ⟨w.heap.size + 1,0,none⟩)] eg b off l0.length c0 l0 ((w.alloc (.cells #[.int .i64 a1] 3)).alloc (.cells #[.int .i64 a2] 3))
  (FP.pred a1 a2 w.heap.size _ (by simp) (by go_simp) (by go_simp)) (Nat.le_refl _) hl
  (fun j hj => Lib.cell?_alloc_some _ (Lib.cell?_alloc_some _ (by rw [hcell j hj,List.getD_eq_getElem?_getD,List.getElem?_eq_getElem hj,getElem!_pos l0 j hj];rfl)))
 rw [List.take_length] at hcon;change Calls Tryz.prog 131 _ _ _ at hcon;clear hcell d;generalize (l0.any fun x => !(decide (a1 <= x ∧ x <= a2))) = r at hcon ⊢;go_enter Tryz.func74,Tryz.ntmps74
 go_wp2_with (go_at_call 131;refine hcon.mono ?_;rintro e w' ⟨rfl,q,rfl⟩)
 go_ret;exact ⟨rfl,below_drewN' hbel q⟩
end Go.Proofs.YtgnijnlgbelifaaGreat.Q
