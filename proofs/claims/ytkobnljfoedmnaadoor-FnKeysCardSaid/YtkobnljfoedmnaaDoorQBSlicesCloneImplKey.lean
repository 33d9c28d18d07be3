import Derived.Test.YtkobnljfoedmnaaDoorQ0
import Derived.Test.YtkobnljfoedmnaaDoorGUp
import Derived.WalkSpells
import Derived.Test.YtkobnljfoedmnaaDoorWRepsOne
namespace Go.Proofs.YtkobnljfoedmnaaDoor.Q
open Go.RowKit Go.Proofs.YtkobnljfoedmnaaDoorW.PrintWords Go.Proofs.YtkobnljfoedmnaaDoorW.PrintLast Go.Proofs.YtkobnljfoedmnaaDoorW.PrintMore Go.Proofs.YtkobnljfoedmnaaDoorW.GCall
attribute [local go_sem] max2_int min2_int max_two min_two max_three min_three max_four min_four
set_option linter.unusedVariables false
set_option linter.unusedSimpArgs false
def slices_Clone_impl_Key.f (l0 : List (S25)) : Option ((List (S25))) := (some (([] : List (S25)) : List (S25))).bind fun y101 => (if y101.length + l0.length < 3518437208883 then (some (y101 ++ l0)) else (none))
set_option maxHeartbeats 3000000 in
set_option maxRecDepth 100000 in
theorem slices_Clone_impl_Key.calls (A0 : Option Addr) (c0 : Nat) (l0 : List (S25)) (r : List (S25)) (w : World) (hr0 : Kd.C k25 w A0 l0.length l0) (hc0 : l0.length <= c0) (h : slices_Clone_impl_Key.f l0 = some r) :
  Calls Tryd.prog 50 #[.slice A0 l0.length c0] w fun e w' => ∃ v0_ : Value,e = .returned (v0_) ∧ Kd.R k25 25 w' w.heap.size (fun _ => True) v0_ r ∧ Below w.heap.size w w' := by
 cases A0 with
 | none =>
  obtain rfl : l0 = [] := by
   rcases Nat.eq_zero_or_pos l0.length with h0_ | h0_
   ·exact List.eq_nil_of_length_eq_zero h0_
   obtain ⟨_,e_,_⟩ := hr0.2.2 h0_;cases e_
  have hr_ : r = [] := by simp [slices_Clone_impl_Key.f] at h;first|exact h|exact h.symm
  subst hr_;have hu23 := Tryd.underlying23;have hq_ := fun (w : World) (n c n' c' : Nat) => Lib.run_eql_slice_nil (P := Tryd.prog) w 23 25 none n c n' c' hu23
  go_enter Tryd.func50,Tryd.ntmps50;go_wp2;go_ret;exact ⟨.slice none 0 0,rfl,Kd.R_nil _ _ _ _ _,Below.refl _ _⟩
 | some ad0_ =>
  have hu_ := Tryd.underlying23;have hq_ := fun (w : World) (n c n' c' : Nat) => Lib.run_eql_slice_nil (P := Tryd.prog) w 23 25 (some ad0_) n c n' c' hu_
  have HR0 := ZA hr0;have HC0 := ZA hc0;clear hr0 hc0;have HB := ZA (Below.refl w.heap.size w);have H := h;clear h;unfold slices_Clone_impl_Key.f at H;obtain ⟨y101,hy101⟩ : ∃ y_ : List (S25),y_ = (([] : List (S25))) := ⟨_,rfl⟩;replace H : (if y101.length + l0.length < 3518437208883 then (some (y101 ++ l0)) else (none)) = some r := YH hy101 H;have Ny101 := ZA hy101;clear hy101;replace H := YM H;obtain ⟨c2,H⟩ := H;have LMc2 := ZA c2;clear c2;obtain ⟨y104,hy104⟩ : ∃ y_ : List (S25),y_ = (y101 ++ l0) := ⟨_,rfl⟩;replace H : (some y104) = some r := YH hy104 H;have Ny104 := ZA hy104;clear hy104;obtain rfl := Option.some.inj H;go_enter Tryd.func50,Tryd.ntmps50
  go_wp2_with (first|((with_reducible refine gate_dst (N := 5) rfl ?_);refine Kd.R_lit k25 _ 25 ?hg (N := 5) ?hd (xs := ([] : List (S25))) (inner := []) (ok := fun _ => True) (okp := fun _ => True) ?hr ?hp (fun _ hk => hk) trivial (Below.refl _ _) (Nat.le_refl _) (by simp) ?_;(case hd => rfl);(case hg => rfl);(case hr => first|(go_simp;done)|(go_simp;rfl));(case hp => exact (Reps.none _ _));intro v102 w3 ho4 hb hg_ hnew_;clear hg_ hnew_;(first|rw [<- Ny101.out] at ho4|(simp only [Int.reduceToNat] at ho4;rw [<- Ny101.out] at ho4));have HO103 := ZA (Kd.R_lower ho4 (SZ HB));replace HB := BS HB hb;clear hb ho4)|((with_reducible refine gate_builtin (b := .append) (xs := #[.tmp 5,.tmp 6]) rfl ?_);at_builtin;refine Kd.R_append_rows k25 (w0 := w) w.heap.size rfl (.tmp 5) (.tmp 6) 23 25 (.agg #[(.int .i64 0),(.int .i64 0),(.int .i64 0),(.int .i64 0),(.int .i64 0)]) 40 rfl Tryd.underlying23 info25 rfl (by decide) (by omega) v102 y101 l0 _ _ _ (fun _ => True) (fun _ => False) rfl rfl (ZK HO103) (ZR (Kd.C_below HR0.out HB.out)) (fun _ _ h => h) (fun _ h => h.elim) (fun _ _ => trivial) (ZQ HB) (SZ HB) ?aL ?_;(case aL => have := LMc2.out;omega);intro v105 w5 ho hb hg hat;rw [<- Ny104.out] at ho;replace HB := ZA (hb);have HO106 := ZA (ho);clear HO103;clear ho hb hg hat))
  go_ret;exact ⟨_,YR,ZK HO106,ZQ HB⟩
end Go.Proofs.YtkobnljfoedmnaaDoor.Q
