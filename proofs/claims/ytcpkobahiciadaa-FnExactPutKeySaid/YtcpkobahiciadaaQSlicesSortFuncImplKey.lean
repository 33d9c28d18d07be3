-- Written for the seat Ytcpkobahiciadaa by a program of this session (wip/tool/gx.py) out of the translation. Lean checks it.
import Derived.Test.YtcpkobahiciadaaQ0
import Derived.Ground.SlsfProg
import Derived.Test.YtcpkobahiciadaaGSrt
import Derived.Test.YtcpkobahiciadaaWKept
import Derived.Test.YtcpkobahiciadaaWShare
import Derived.Test.YtcpkobahiciadaaWRepsOne
namespace Go.Proofs.Ytcpkobahiciadaa.Q
open Go.RowKit Go.Proofs.YtcpkobahiciadaaW.PrintWords Go.Proofs.YtcpkobahiciadaaW.PrintLast Go.Proofs.YtcpkobahiciadaaW.PrintMore
attribute [local go_sem] max2_int min2_int max_two min_two max_three min_three max_four min_four   -- for this text's walks alone
set_option linter.unusedVariables false
set_option linter.unusedSimpArgs false

/-! ### slices_SortFunc_impl_Key: function 73 -/
def slices_SortFunc_impl_Key.cf (a b : S48) : Int := wrap64 (a.f0 - b.f0)
def slices_SortFunc_impl_Key.okp (x : S48) : Prop := -1099511627776 ≤ x.f0 ∧ x.f0 ≤ 1099511627776
instance (x : S48) : Decidable (slices_SortFunc_impl_Key.okp x) := by unfold slices_SortFunc_impl_Key.okp; infer_instance
instance : Inhabited {x : S48 // slices_SortFunc_impl_Key.okp x} := ⟨⟨⟨0, 0, 0, 0, 0⟩, by unfold slices_SortFunc_impl_Key.okp; decide⟩⟩
def slices_SortFunc_impl_Key.sub (l : List S48) : List {x : S48 // slices_SortFunc_impl_Key.okp x} := l.filterMap fun x => if h : slices_SortFunc_impl_Key.okp x then some ⟨x, h⟩ else none
def slices_SortFunc_impl_Key.okB (l : List S48) : Bool := l.all fun x => decide (slices_SortFunc_impl_Key.okp x)
theorem slices_SortFunc_impl_Key.sub_val : ∀ l : List S48, slices_SortFunc_impl_Key.okB l = true → (slices_SortFunc_impl_Key.sub l).map (·.1) = l
  | [], _ => rfl
  | x :: l, h => by
    unfold slices_SortFunc_impl_Key.okB at h
    rw [List.all_cons, Bool.and_eq_true, decide_eq_true_eq] at h
    unfold slices_SortFunc_impl_Key.sub
    rw [List.filterMap_cons, dif_pos h.1]
    show x :: (slices_SortFunc_impl_Key.sub l).map (·.1) = x :: l
    rw [slices_SortFunc_impl_Key.sub_val l h.2]
def slices_SortFunc_impl_Key.srt (l : List S48) : List S48 := (Go.Proofs.YtcpkobahiciadaaW.GSrt.srt (fun (a b : {x : S48 // slices_SortFunc_impl_Key.okp x}) => slices_SortFunc_impl_Key.cf a.1 b.1) (slices_SortFunc_impl_Key.sub l)).map (·.1)
def slices_SortFunc_impl_Key.f (l0 : List S48) : Option (List S48) := if l0.length < 4611686018427387904 then (if slices_SortFunc_impl_Key.okB l0 = true then some (slices_SortFunc_impl_Key.srt l0) else none) else none
theorem slices_SortFunc_impl_Key.lt (a b : {x : S48 // slices_SortFunc_impl_Key.okp x}) : Go.Proofs.ltOf (fun (a b : {x : S48 // slices_SortFunc_impl_Key.okp x}) => slices_SortFunc_impl_Key.cf a.1 b.1) a b = decide (a.1.f0 < b.1.f0) := by
  unfold Go.Proofs.ltOf slices_SortFunc_impl_Key.cf
  rw [decide_eq_decide]
  obtain ⟨a, ha⟩ := a
  obtain ⟨b, hb⟩ := b
  unfold slices_SortFunc_impl_Key.okp at ha hb
  show wrap64 (a.f0 - b.f0) < 0 ↔ a.f0 < b.f0
  unfold wrap64
  omega
theorem slices_SortFunc_impl_Key.swo : Go.Sort.SWO (Go.Proofs.ltOf (fun (a b : {x : S48 // slices_SortFunc_impl_Key.okp x}) => slices_SortFunc_impl_Key.cf a.1 b.1)) :=
  ⟨fun a => by rw [slices_SortFunc_impl_Key.lt]; exact decide_eq_false (Int.lt_irrefl _),
   fun a b c h1 h2 => by rw [slices_SortFunc_impl_Key.lt] at *; exact decide_eq_true (Int.lt_trans (of_decide_eq_true h1) (of_decide_eq_true h2)),
   fun a b c h1 h2 => by rw [slices_SortFunc_impl_Key.lt] at *; have h3 := of_decide_eq_false h1; have h4 := of_decide_eq_false h2; exact decide_eq_false (by omega)⟩
set_option maxHeartbeats 1000000
end Go.Proofs.Ytcpkobahiciadaa.Q
namespace Go.Proofs
open Go.Shelf
shelf_lay_g SlLaysF0.n6 Slsf 6 at Try 73 as Try.laysS73
end Go.Proofs
namespace Go.Proofs.Ytcpkobahiciadaa.Q
open Go.RowKit Go.Lib Go.Sort Go.Proofs.YtcpkobahiciadaaW.PrintWords Go.Proofs.YtcpkobahiciadaaW.PrintLast Go.Proofs.YtcpkobahiciadaaW.PrintMore Go.Proofs.YtcpkobahiciadaaW Go.Proofs.Ytcpkobahiciadaa.Q
set_option linter.unusedVariables false
set_option linter.unusedSimpArgs false
def slices_SortFunc_impl_Key.enc (a : S48) : List Value := [.int .i64 a.f0, .int .i64 a.f1, .int .i64 a.f2, .int .i64 a.f3, .int .i64 a.f4]
theorem slices_SortFunc_impl_Key.flat : GSrt.Flat k48 slices_SortFunc_impl_Key.enc := ⟨fun w x cs => ⟨fun h => k48_open h, fun h => by rw [h]; exact k48_mk w x⟩, fun w base ok x cs => ⟨fun h => k48_openM h, fun h => by rw [h]; exact k48_mkM w base ok x⟩⟩
set_option maxHeartbeats 400000 in
theorem slices_SortFunc_impl_Key.cmp (x y : S48) (W : World) : Calls Try.prog 74 (#[.agg (slices_SortFunc_impl_Key.enc x).toArray, .agg (slices_SortFunc_impl_Key.enc y).toArray] ++ #[]) W fun e w' => e = .returned (.int .i64 (slices_SortFunc_impl_Key.cf x y)) ∧ ∃ q os, w' = grow (W.drewN q) os := by
  have hu := Try.underlying48
  show Calls Try.prog 74 #[.agg #[.int .i64 x.f0, .int .i64 x.f1, .int .i64 x.f2, .int .i64 x.f3, .int .i64 x.f4], .agg #[.int .i64 y.f0, .int .i64 y.f1, .int .i64 y.f2, .int .i64 y.f3, .int .i64 y.f4]] W _
  unfold slices_SortFunc_impl_Key.cf
  obtain ⟨r, hr⟩ : ∃ r : Int, wrap64 (x.f0 - y.f0) = r := ⟨_, rfl⟩
  have hrw : IntKind.i64.wrap (x.f0 - y.f0) = r := (i64_w _).trans hr
  rw [hr]
  go_enter Try.func74, Try.ntmps74
  go_wp2
  go_ret
  exact ⟨rfl, 0, #[.cells #[.int .i64 x.f0, .int .i64 x.f1, .int .i64 x.f2, .int .i64 x.f3, .int .i64 x.f4] 48 (0, 0), .cells #[.int .i64 y.f0, .int .i64 y.f1, .int .i64 y.f2, .int .i64 y.f3, .int .i64 y.f4] 48 (0, 0)], rfl⟩
theorem slices_SortFunc_impl_Key.calls (P0_ : Nat → Prop) (u9000_ : Value) (l0 : List (S48)) (r1 : List (S48)) (w0 w : World) (hB : Below w0.heap.size w0 w) (ho0 : Kd.R k48 48 w w0.heap.size P0_ u9000_ l0) (h : slices_SortFunc_impl_Key.f l0 = some r1) :
    Calls Try.prog 73 #[u9000_, .func (.func 74) #[] #[]] w fun e w' => e = .returned (.tuple #[]) ∧ Kd.R k48 48 w' w0.heap.size (fun k_ => (P0_ k_ ∨ w.heap.size ≤ k_)) u9000_ r1 ∧ Below w0.heap.size w0 w' ∧ Kept w w' (fun k_ => P0_ k_) := by
  unfold slices_SortFunc_impl_Key.f at h
  split at h
  · rename_i hl
    split at h
    · rename_i hok
      obtain rfl := Option.some.inj h
      have hf := slices_SortFunc_impl_Key.flat
      have ho := GSrt.own_of_R hf ho0
      have eg : ∀ args w, (callFunc 74 args).run Try.prog w = .ok (.enter 74 args) w := enters_of Try.func74 (by kernel_rfl) rfl
      have hv := slices_SortFunc_impl_Key.sub_val l0 hok
      unfold slices_SortFunc_impl_Key.srt
      generalize slices_SortFunc_impl_Key.sub l0 = ys at hv ⊢
      have e1 : l0.flatMap slices_SortFunc_impl_Key.enc = ys.flatMap fun x => slices_SortFunc_impl_Key.enc x.1 := by rw [← hv, List.flatMap_map]
      have e2 : l0.length = ys.length := by rw [← hv, List.length_map]
      have ho' : w.ownsRow w0.heap.size 48 k48.sz u9000_ ys.length (ys.flatMap fun x => slices_SortFunc_impl_Key.enc x.1) := by rw [← e1, ← e2]; exact ho
      have hcon := GSrt.sort_own Try.laysS73 5 Try.isAgg48 Try.sizeOf48 (fun x : {x : S48 // slices_SortFunc_impl_Key.okp x} => slices_SortFunc_impl_Key.enc x.1) (fun _ => rfl) (fun x => hf.one w x.1) (fun a b => slices_SortFunc_impl_Key.cf a.1 b.1) slices_SortFunc_impl_Key.swo 74 #[] eg w0.heap.size 48 u9000_ ys w ho' (by rw [← e2]; exact hl)
        (fun b hb m os dk hs x y => slices_SortFunc_impl_Key.cmp x.1 y.1 _)
      refine hcon.mono ?_
      rintro e w' ⟨rfl, h1, h3⟩
      have hlen := (GSrt.srt_facts (fun (a b : {x : S48 // slices_SortFunc_impl_Key.okp x}) => slices_SortFunc_impl_Key.cf a.1 b.1) slices_SortFunc_impl_Key.swo ys).1
      generalize GSrt.srt (fun (a b : {x : S48 // slices_SortFunc_impl_Key.okp x}) => slices_SortFunc_impl_Key.cf a.1 b.1) ys = zs at h1 hlen ⊢
      have h2 : w'.ownsRow w0.heap.size 48 k48.sz u9000_ (zs.map (·.1)).length ((zs.map (·.1)).flatMap slices_SortFunc_impl_Key.enc) := by rw [List.flatMap_map, List.length_map, hlen]; exact h1
      refine ⟨rfl, GSrt.R_of_own hf h2 (fun k hk => .inl (ho0.1 k hk)), hB.grown h3 hB.size (fun k hk => own_base ho k hk), h3.size, fun i hi hn => h3.block i hi (fun he => hn (ho0.1 i he.symm))⟩
    · cases h
  · cases h


end Go.Proofs.Ytcpkobahiciadaa.Q
