import Derived.Test.YtkobnljfoedmnaaDoorQ0
import Derived.Test.YtkobnljfoedmnaaDoorGUp
import Derived.Ground.SlsfProg
import Derived.Test.YtkobnljfoedmnaaDoorS106
import Derived.Test.YtkobnljfoedmnaaDoorGSrt
import Derived.Test.YtkobnljfoedmnaaDoorWRepsOne
namespace Go.Proofs.YtkobnljfoedmnaaDoor.Q
open Go.RowKit Go.Proofs.YtkobnljfoedmnaaDoorW.PrintWords Go.Proofs.YtkobnljfoedmnaaDoorW.PrintLast Go.Proofs.YtkobnljfoedmnaaDoorW.PrintMore Go.Proofs.YtkobnljfoedmnaaDoorW.GCall
attribute [local go_sem] max2_int min2_int max_two min_two max_three min_three max_four min_four
set_option linter.unusedVariables false
set_option linter.unusedSimpArgs false
def slices_SortFunc_impl_Card.cf (a b : S94) : Int := Lib.compareBytes a.f0.data.toList b.f0.data.toList
def slices_SortFunc_impl_Card.srt (l : List S94) : List S94 := @Go.Proofs.YtkobnljfoedmnaaDoorW.GSrt.srt S94 ⟨z94⟩ slices_SortFunc_impl_Card.cf l
def slices_SortFunc_impl_Card.f (l0 : List S94) : Option (List S94) := if l0.length < 4611686018427387904 then some (slices_SortFunc_impl_Card.srt l0) else none
set_option maxHeartbeats 1000000
end Go.Proofs.YtkobnljfoedmnaaDoor.Q
namespace Go.Proofs
open Go.Shelf
shelf_lay_g SlLaysF0.n6 Slsf 6 at Tryd 84 as Tryd.laysS84
end Go.Proofs
namespace Go.Proofs.YtkobnljfoedmnaaDoor.Q
open Go.RowKit Go.Lib Go.Sort Go.Proofs.YtkobnljfoedmnaaDoorW.PrintWords Go.Proofs.YtkobnljfoedmnaaDoorW.PrintLast Go.Proofs.YtkobnljfoedmnaaDoorW.PrintMore Go.Proofs.YtkobnljfoedmnaaDoorW Go.Proofs.YtkobnljfoedmnaaDoor.Q Go.Proofs.YtkobnljfoedmnaaDoorW.GCall
set_option linter.unusedVariables false
set_option linter.unusedSimpArgs false
def slices_SortFunc_impl_Card.enc (a : S94) : List Value := [.string a.f0,.int .i64 a.f1,.int .i64 a.f2]
theorem slices_SortFunc_impl_Card.flat : GSrt.Flat k94 slices_SortFunc_impl_Card.enc := ⟨fun w x cs => ⟨fun h => k94_open h,fun h => by rw [h];exact k94_mk w x⟩,fun w base ok x cs => ⟨fun h => k94_openM h,fun h => by rw [h];exact k94_mkM w base ok x⟩⟩
theorem slices_SortFunc_impl_Card.swo : SWO (ltOf slices_SortFunc_impl_Card.cf) := by
 have h : ∀ a b : S94,ltOf slices_SortFunc_impl_Card.cf a b = decide (a.f0.data.toList < b.f0.data.toList) := fun a b => by
  unfold ltOf slices_SortFunc_impl_Card.cf;rw [decide_eq_decide];exact GSrt.compareBytes_neg _ _
 exact ⟨fun a => by rw [h];exact decide_eq_false (List.lt_irrefl _),
  fun a b c h1 h2 => by rw [h] at *;exact decide_eq_true (List.lt_trans (of_decide_eq_true h1) (of_decide_eq_true h2)),
  fun a b c h1 h2 => by rw [h] at *;exact decide_eq_false (List.not_lt.2 (List.le_trans (List.not_lt.1 (of_decide_eq_false h2)) (List.not_lt.1 (of_decide_eq_false h1))))⟩
set_option maxHeartbeats 400000 in
theorem slices_SortFunc_impl_Card.cmp (x y : S94) (W : World) : Calls Tryd.prog 85 (#[.agg (slices_SortFunc_impl_Card.enc x).toArray,.agg (slices_SortFunc_impl_Card.enc y).toArray] ++ #[]) W fun e w' => e = .returned (.int .i64 (slices_SortFunc_impl_Card.cf x y)) ∧ ∃ q os,w' = grow (W.drewN q) os := by
 have hu := Tryd.underlying94;have hcon := fun W => Tryd.strings_Compare x.f0 y.f0 W
 show Calls Tryd.prog 85 #[.agg #[.string x.f0,.int .i64 x.f1,.int .i64 x.f2],.agg #[.string y.f0,.int .i64 y.f1,.int .i64 y.f2]] W _;unfold slices_SortFunc_impl_Card.cf;generalize Lib.compareBytes x.f0.data.toList y.f0.data.toList = r at hcon ⊢;go_enter Tryd.func85,Tryd.ntmps85
 go_wp2_with (go_at_call 86;refine (hcon _).mono ?_;rintro e w' ⟨rfl,rfl⟩)
 go_ret;exact ⟨rfl,0,#[.cells #[.string x.f0,.int .i64 x.f1,.int .i64 x.f2] 94 (0,0),.cells #[.string y.f0,.int .i64 y.f1,.int .i64 y.f2] 94 (0,0)],rfl⟩
theorem slices_SortFunc_impl_Card.calls (P0_ : Nat -> Prop) (u9000_ : Value) (l0 : List (S94)) (r1 : List (S94)) (w0 w : World) (hB : Below w0.heap.size w0 w) (ho0 : Kd.R k94 94 w w0.heap.size P0_ u9000_ l0) (h : slices_SortFunc_impl_Card.f l0 = some r1) :
  Calls Tryd.prog 84 #[u9000_,.func (.func 85) #[] #[]] w fun e w' => e = .returned (.tuple #[]) ∧ Kd.R k94 94 w' w0.heap.size (fun k_ => (P0_ k_ ∨ w.heap.size <= k_)) u9000_ r1 ∧ Below w0.heap.size w0 w' ∧ Kept w w' (fun k_ => P0_ k_) := by
 unfold slices_SortFunc_impl_Card.f at h
 split at h
 ·rename_i hl
  obtain rfl := Option.some.inj h
  letI : Inhabited S94 := ⟨z94⟩
  have hf := slices_SortFunc_impl_Card.flat;have ho := GSrt.own_of_R hf ho0;have eg : ∀ args w,(callFunc 85 args).run Tryd.prog w = .ok (.enter 85 args) w := enters_of Tryd.func85 (by kernel_rfl) rfl;have hcon := GSrt.sort_own Tryd.laysS84 3 Tryd.isAgg94 Tryd.sizeOf94 slices_SortFunc_impl_Card.enc (fun _ => rfl) (fun x => hf.one w x) slices_SortFunc_impl_Card.cf slices_SortFunc_impl_Card.swo 85 #[] eg w0.heap.size 94 u9000_ l0 w ho hl
   (fun b hb m os dk hs x y => slices_SortFunc_impl_Card.cmp x y _)
  refine hcon.mono ?_;rintro e w' ⟨rfl,h1,h3⟩;refine ⟨rfl,GSrt.R_of_own hf (by rw [show (slices_SortFunc_impl_Card.srt l0).length = l0.length from (GSrt.srt_facts _ slices_SortFunc_impl_Card.swo l0).1];exact h1) (fun k hk => .inl (ho0.1 k hk)),hB.grown h3 hB.size (fun k hk => own_base ho k hk),h3.size,fun i hi hn => h3.block i hi (fun he => hn (ho0.1 i he.symm))⟩
 cases h
end Go.Proofs.YtkobnljfoedmnaaDoor.Q
