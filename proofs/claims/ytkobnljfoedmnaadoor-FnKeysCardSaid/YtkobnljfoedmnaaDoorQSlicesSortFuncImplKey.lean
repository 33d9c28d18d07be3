import Derived.Test.YtkobnljfoedmnaaDoorQ0
import Derived.Test.YtkobnljfoedmnaaDoorGUp
import Derived.Ground.SlsfProg
import Derived.Test.YtkobnljfoedmnaaDoorGSrt
import Derived.Test.YtkobnljfoedmnaaDoorWRepsOne
namespace Go.Proofs.YtkobnljfoedmnaaDoor.Q
open Go.RowKit Go.Proofs.YtkobnljfoedmnaaDoorW.PrintWords Go.Proofs.YtkobnljfoedmnaaDoorW.PrintLast Go.Proofs.YtkobnljfoedmnaaDoorW.PrintMore Go.Proofs.YtkobnljfoedmnaaDoorW.GCall
attribute [local go_sem] max2_int min2_int max_two min_two max_three min_three max_four min_four
set_option linter.unusedVariables false
set_option linter.unusedSimpArgs false
def slices_SortFunc_impl_Key.cf (a b : S25) : Int := wrap64 (a.f0 - b.f0)
def slices_SortFunc_impl_Key.okp (x : S25) : Prop := -1099511627776 <= x.f0 ∧ x.f0 <= 1099511627776
instance (x : S25) : Decidable (slices_SortFunc_impl_Key.okp x) := by unfold slices_SortFunc_impl_Key.okp;infer_instance
instance : Inhabited {x : S25 // slices_SortFunc_impl_Key.okp x} := ⟨⟨⟨0,0,0,0,0⟩,by unfold slices_SortFunc_impl_Key.okp;decide⟩⟩
def slices_SortFunc_impl_Key.sub (l : List S25) : List {x : S25 // slices_SortFunc_impl_Key.okp x} := l.filterMap fun x => if h : slices_SortFunc_impl_Key.okp x then some ⟨x,h⟩ else none
def slices_SortFunc_impl_Key.okB (l : List S25) : Bool := l.all fun x => decide (slices_SortFunc_impl_Key.okp x)
theorem slices_SortFunc_impl_Key.sub_val : ∀ l : List S25,slices_SortFunc_impl_Key.okB l = true -> (slices_SortFunc_impl_Key.sub l).map (·.1) = l
  | [],_ => rfl
  | x :: l,h => by
    unfold slices_SortFunc_impl_Key.okB at h;rw [List.all_cons,Bool.and_eq_true,decide_eq_true_eq] at h;unfold slices_SortFunc_impl_Key.sub;rw [List.filterMap_cons,dif_pos h.1];show x :: (slices_SortFunc_impl_Key.sub l).map (·.1) = x :: l;rw [slices_SortFunc_impl_Key.sub_val l h.2]
def slices_SortFunc_impl_Key.srt (l : List S25) : List S25 := (Go.Proofs.YtkobnljfoedmnaaDoorW.GSrt.srt (fun (a b : {x : S25 // slices_SortFunc_impl_Key.okp x}) => slices_SortFunc_impl_Key.cf a.1 b.1) (slices_SortFunc_impl_Key.sub l)).map (·.1)
def slices_SortFunc_impl_Key.f (l0 : List S25) : Option (List S25) := if l0.length < 4611686018427387904 then (if slices_SortFunc_impl_Key.okB l0 = true then some (slices_SortFunc_impl_Key.srt l0) else none) else none
theorem slices_SortFunc_impl_Key.lt (a b : {x : S25 // slices_SortFunc_impl_Key.okp x}) : Go.Proofs.ltOf (fun (a b : {x : S25 // slices_SortFunc_impl_Key.okp x}) => slices_SortFunc_impl_Key.cf a.1 b.1) a b = decide (a.1.f0 < b.1.f0) := by
  unfold Go.Proofs.ltOf slices_SortFunc_impl_Key.cf;rw [decide_eq_decide];obtain ⟨a,ha⟩ := a;obtain ⟨b,hb⟩ := b;unfold slices_SortFunc_impl_Key.okp at ha hb;show wrap64 (a.f0 - b.f0) < 0 ↔ a.f0 < b.f0;unfold wrap64;omega
theorem slices_SortFunc_impl_Key.swo : Go.Sort.SWO (Go.Proofs.ltOf (fun (a b : {x : S25 // slices_SortFunc_impl_Key.okp x}) => slices_SortFunc_impl_Key.cf a.1 b.1)) :=
  ⟨fun a => by rw [slices_SortFunc_impl_Key.lt];exact decide_eq_false (Int.lt_irrefl _),
   fun a b c h1 h2 => by rw [slices_SortFunc_impl_Key.lt] at *;exact decide_eq_true (Int.lt_trans (of_decide_eq_true h1) (of_decide_eq_true h2)),
   fun a b c h1 h2 => by rw [slices_SortFunc_impl_Key.lt] at *;have h3 := of_decide_eq_false h1;have h4 := of_decide_eq_false h2;exact decide_eq_false (by omega)⟩
set_option maxHeartbeats 1000000
end Go.Proofs.YtkobnljfoedmnaaDoor.Q
namespace Go.Proofs
open Go.Shelf
shelf_lay_g SlLaysF0.n6 Slsf 6 at Tryd 52 as Tryd.laysS52
end Go.Proofs
namespace Go.Proofs.YtkobnljfoedmnaaDoor.Q
open Go.RowKit Go.Lib Go.Sort Go.Proofs.YtkobnljfoedmnaaDoorW.PrintWords Go.Proofs.YtkobnljfoedmnaaDoorW.PrintLast Go.Proofs.YtkobnljfoedmnaaDoorW.PrintMore Go.Proofs.YtkobnljfoedmnaaDoorW Go.Proofs.YtkobnljfoedmnaaDoor.Q Go.Proofs.YtkobnljfoedmnaaDoorW.GCall
set_option linter.unusedVariables false
set_option linter.unusedSimpArgs false
def slices_SortFunc_impl_Key.enc (a : S25) : List Value := [.int .i64 a.f0,.int .i64 a.f1,.int .i64 a.f2,.int .i64 a.f3,.int .i64 a.f4]
theorem slices_SortFunc_impl_Key.flat : GSrt.Flat k25 slices_SortFunc_impl_Key.enc := ⟨fun w x cs => ⟨fun h => k25_open h,fun h => by rw [h];exact k25_mk w x⟩,fun w base ok x cs => ⟨fun h => k25_openM h,fun h => by rw [h];exact k25_mkM w base ok x⟩⟩
set_option maxHeartbeats 400000 in
theorem slices_SortFunc_impl_Key.cmp (x y : S25) (W : World) : Calls Tryd.prog 53 (#[.agg (slices_SortFunc_impl_Key.enc x).toArray,.agg (slices_SortFunc_impl_Key.enc y).toArray] ++ #[]) W fun e w' => e = .returned (.int .i64 (slices_SortFunc_impl_Key.cf x y)) ∧ ∃ q os,w' = grow (W.drewN q) os := by
  have hu := Tryd.underlying25;show Calls Tryd.prog 53 #[.agg #[.int .i64 x.f0,.int .i64 x.f1,.int .i64 x.f2,.int .i64 x.f3,.int .i64 x.f4],.agg #[.int .i64 y.f0,.int .i64 y.f1,.int .i64 y.f2,.int .i64 y.f3,.int .i64 y.f4]] W _;unfold slices_SortFunc_impl_Key.cf;obtain ⟨r,hr⟩ : ∃ r : Int,wrap64 (x.f0 - y.f0) = r := ⟨_,rfl⟩;have hrw : IntKind.i64.wrap (x.f0 - y.f0) = r := (i64_w _).trans hr;rw [hr];go_enter Tryd.func53,Tryd.ntmps53;go_wp2;go_ret;exact ⟨rfl,0,#[.cells #[.int .i64 x.f0,.int .i64 x.f1,.int .i64 x.f2,.int .i64 x.f3,.int .i64 x.f4] 25 (0,0),.cells #[.int .i64 y.f0,.int .i64 y.f1,.int .i64 y.f2,.int .i64 y.f3,.int .i64 y.f4] 25 (0,0)],rfl⟩
theorem slices_SortFunc_impl_Key.calls (P0_ : Nat -> Prop) (u9000_ : Value) (l0 : List (S25)) (r1 : List (S25)) (w0 w : World) (hB : Below w0.heap.size w0 w) (ho0 : Kd.R k25 25 w w0.heap.size P0_ u9000_ l0) (h : slices_SortFunc_impl_Key.f l0 = some r1) :
    Calls Tryd.prog 52 #[u9000_,.func (.func 53) #[] #[]] w fun e w' => e = .returned (.tuple #[]) ∧ Kd.R k25 25 w' w0.heap.size (fun k_ => (P0_ k_ ∨ w.heap.size <= k_)) u9000_ r1 ∧ Below w0.heap.size w0 w' ∧ Kept w w' (fun k_ => P0_ k_) := by
  unfold slices_SortFunc_impl_Key.f at h
  split at h
  · rename_i hl
    split at h
    · rename_i hok
      obtain rfl := Option.some.inj h;have hf := slices_SortFunc_impl_Key.flat;have ho := GSrt.own_of_R hf ho0;have eg : ∀ args w,(callFunc 53 args).run Tryd.prog w = .ok (.enter 53 args) w := enters_of Tryd.func53 (by kernel_rfl) rfl;have hv := slices_SortFunc_impl_Key.sub_val l0 hok;unfold slices_SortFunc_impl_Key.srt;generalize slices_SortFunc_impl_Key.sub l0 = ys at hv ⊢;have e1 : l0.flatMap slices_SortFunc_impl_Key.enc = ys.flatMap fun x => slices_SortFunc_impl_Key.enc x.1 := by rw [<- hv,List.flatMap_map]
      have e2 : l0.length = ys.length := by rw [<- hv,List.length_map]
      have ho' : w.ownsRow w0.heap.size 25 k25.sz u9000_ ys.length (ys.flatMap fun x => slices_SortFunc_impl_Key.enc x.1) := by rw [<- e1,<- e2];exact ho
      have hcon := GSrt.sort_own Tryd.laysS52 5 Tryd.isAgg25 Tryd.sizeOf25 (fun x : {x : S25 // slices_SortFunc_impl_Key.okp x} => slices_SortFunc_impl_Key.enc x.1) (fun _ => rfl) (fun x => hf.one w x.1) (fun a b => slices_SortFunc_impl_Key.cf a.1 b.1) slices_SortFunc_impl_Key.swo 53 #[] eg w0.heap.size 25 u9000_ ys w ho' (by rw [<- e2];exact hl)
        (fun b hb m os dk hs x y => slices_SortFunc_impl_Key.cmp x.1 y.1 _)
      refine hcon.mono ?_;rintro e w' ⟨rfl,h1,h3⟩;have hlen := (GSrt.srt_facts (fun (a b : {x : S25 // slices_SortFunc_impl_Key.okp x}) => slices_SortFunc_impl_Key.cf a.1 b.1) slices_SortFunc_impl_Key.swo ys).1;generalize GSrt.srt (fun (a b : {x : S25 // slices_SortFunc_impl_Key.okp x}) => slices_SortFunc_impl_Key.cf a.1 b.1) ys = zs at h1 hlen ⊢;have h2 : w'.ownsRow w0.heap.size 25 k25.sz u9000_ (zs.map (·.1)).length ((zs.map (·.1)).flatMap slices_SortFunc_impl_Key.enc) := by rw [List.flatMap_map,List.length_map,hlen];exact h1
      refine ⟨rfl,GSrt.R_of_own hf h2 (fun k hk => .inl (ho0.1 k hk)),hB.grown h3 hB.size (fun k hk => own_base ho k hk),h3.size,fun i hi hn => h3.block i hi (fun he => hn (ho0.1 i he.symm))⟩
    · cases h
  · cases h
end Go.Proofs.YtkobnljfoedmnaaDoor.Q
