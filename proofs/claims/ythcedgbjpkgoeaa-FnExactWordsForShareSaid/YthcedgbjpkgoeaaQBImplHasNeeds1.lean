-- Written for the seat Ythcedgbjpkgoeaa by a program of this session (wip/tool/gx.py) out of the translation. Lean checks it.
import Derived.Test.YthcedgbjpkgoeaaQ0
import Derived.Test.YthcedgbjpkgoeaaGCall
import Derived.Test.YthcedgbjpkgoeaaQBImplWithin
import Derived.Test.YthcedgbjpkgoeaaQBSlicesCloneInt
import Derived.Test.YthcedgbjpkgoeaaQBSlicesIndexInt
import Derived.Test.YthcedgbjpkgoeaaQImplAllOfInt
import Derived.Test.YthcedgbjpkgoeaaQImplAreWords
import Derived.Test.YthcedgbjpkgoeaaQImplMostUsed
import Derived.Test.YthcedgbjpkgoeaaGVal
import Derived.Test.YthcedgbjpkgoeaaWTab
import Derived.Test.YthcedgbjpkgoeaaWKept
import Derived.Test.YthcedgbjpkgoeaaWRepsOne
import Derived.Test.YthcedgbjpkgoeaaGVal
import Derived.Test.YthcedgbjpkgoeaaWTab
import Derived.Test.YthcedgbjpkgoeaaWKept
import Derived.Test.YthcedgbjpkgoeaaWRepsOne
import Derived.Test.YthcedgbjpkgoeaaWTab
import Derived.Test.YthcedgbjpkgoeaaWApart
import Derived.Test.YthcedgbjpkgoeaaWFoot
import Derived.Test.YthcedgbjpkgoeaaWKept
import Derived.Test.YthcedgbjpkgoeaaWShare
import Derived.Test.YthcedgbjpkgoeaaWN
import Derived.Test.YthcedgbjpkgoeaaWRepsOne
namespace Go.Proofs.Ythcedgbjpkgoeaa.Q
open Go.RowKit Go.Proofs.YthcedgbjpkgoeaaW.PrintWords Go.Proofs.YthcedgbjpkgoeaaW.PrintLast Go.Proofs.YthcedgbjpkgoeaaW.PrintMore Go.Proofs.YthcedgbjpkgoeaaW.GCall
attribute [local go_sem] max2_int min2_int max_two min_two max_three min_three max_four min_four   -- for this text's walks alone
set_option linter.unusedVariables false
set_option linter.unusedSimpArgs false

/-! ### impl_hasNeeds_1: function 86 -/
def impl_hasNeeds_1.f (k : Nat) (l0 : List Int) (l1 : List Int) : Option Bool := impl_allOf_int.f (fun x => slices_Contains_int.f k l1 x) l0
theorem impl_hasNeeds_1.mono : ∀ a0 a1 k, LeO (impl_hasNeeds_1.f k a0 a1) (impl_hasNeeds_1.f (k + 1) a0 a1) := fun a0 a1 k => Go.Proofs.YthcedgbjpkgoeaaW.GIdx.allO_mono (fun x => slices_Contains_int.mono _ _ _) a0
set_option maxHeartbeats 1000000
open Go.RowKit Go.Lib Go.Proofs.YthcedgbjpkgoeaaW.PrintWords Go.Proofs.YthcedgbjpkgoeaaW.PrintLast Go.Proofs.YthcedgbjpkgoeaaW.PrintMore Go.Proofs.YthcedgbjpkgoeaaW Go.Proofs.Ythcedgbjpkgoeaa.Q
set_option maxHeartbeats 1000000 in
set_option maxRecDepth 100000 in
theorem impl_hasNeeds_1.calls (k : Nat) (A0 : Option Addr) (c0 : Nat) (l0 : List Int) (A1 : Option Addr) (c1 : Nat) (l1 : List Int) (r : Bool) {gb : Nat} (w : World) (hr0 : Kd.C (Kd.int .i64) w A0 l0.length l0) (hc0 : l0.length ≤ c0) (hr1 : Kd.C (Kd.int .i64) w A1 l1.length l1) (hc1 : l1.length ≤ c1) (hbx : w.cell? ⟨gb, 0, none⟩ = some (.slice A1 l1.length c1)) (h : impl_hasNeeds_1.f k l0 l1 = some r) :
  Calls Try.prog 85 #[.slice A0 l0.length c0, .func (.func 86) #[] #[.pointer (some ⟨gb, 0, none⟩)]] w fun e w' => e = .returned (.bool r) ∧ Below w.heap.size w w' := by
 have eg : ∀ args w, (callFunc 86 args).run Try.prog w = .ok (.enter 86 args) w := enters_of Try.func86 (by kernel_rfl) rfl
 refine impl_allOf_int.calls (fun x => slices_Contains_int.f k l1 x) 86 #[.pointer (some ⟨gb, 0, none⟩)] eg A0 c0 l0 r w hr0 ?_ h
 intro W x b hb hx hp
 have hlt : gb < w.heap.size := World.block_lt_of_cell? w _ hbx
 have hc : W.cell? ⟨gb, 0, none⟩ = some (.slice A1 l1.length c1) := (hb.cell (p := ⟨gb, 0, none⟩) hlt).trans hbx
 have hcon := slices_Contains_int.calls k A1 c1 l1 x b W (Kd.C_below hr1 hb) hc1 hp
 have HC := Aside0.mk hcon
 have HBB := Aside0.mk hb
 clear hcon hb hbx hp hr0 hr1 h
 show Calls Try.prog 86 #[.int .i64 x, .pointer (some ⟨gb, 0, none⟩)] W _
 go_enter Try.func86, Try.ntmps86
 go_wp2_with (go_at_call 60; refine (HC.out).mono ?_; rintro e w' ⟨rfl, ⟨nd, rfl⟩⟩)
 go_ret
 exact ⟨rfl, by repeat (first | exact Below.refl _ _ | apply pw_below_drewN | apply below_alloc)⟩


/-! ### impl_hasNeeds: function 47 -/
def impl_hasNeeds.f (k : Nat) (a0_0 : ByteArray) (l0_1 : List Int) (a0_2 : Int) (l1 : List Int) : Option (Bool) := (impl_hasNeeds_1.f k l0_1 l1).bind fun t103 => (some t103)
theorem impl_hasNeeds.mono : ∀ a0 a1 a2 a3 k, LeO (impl_hasNeeds.f k a0 a1 a2 a3) (impl_hasNeeds.f (k + 1) a0 a1 a2 a3) := by
 intro a0 a1 a2 a3 k
 unfold impl_hasNeeds.f
 repeat' first
   | (with_reducible exact impl_hasNeeds_1.mono _ _ _)
   | (with_reducible exact LeO.refl _)
   | (with_reducible exact LeO.none _)
   | (with_reducible refine LeO.ite ?_ ?_)
   | (with_reducible refine LeO.bind ?_ (fun _ => ?_))
set_option maxHeartbeats 3000000 in
set_option maxRecDepth 100000 in
theorem impl_hasNeeds.calls (k : Nat) (a0_0 : ByteArray) (A0_1 : Option Addr) (c0_1 : Nat) (l0_1 : List Int) (a0_2 : Int) (A1 : Option Addr) (c1 : Nat) (l1 : List Int) (r : Bool) (w : World) (hr0_1 : Kd.C (Kd.int .i64) w A0_1 l0_1.length l0_1) (hc0_1 : l0_1.length ≤ c0_1) (hr1 : Kd.C (Kd.int .i64) w A1 l1.length l1) (hc1 : l1.length ≤ c1) (h : impl_hasNeeds.f k a0_0 l0_1 a0_2 l1 = some r) :
  Calls Try.prog 47 #[.agg #[.string a0_0, .slice A0_1 l0_1.length c0_1, .int .i64 a0_2], .slice A1 l1.length c1] w fun e w' => e = .returned (.bool r) ∧ Below w.heap.size w w' := by
 have hu59 := Try.underlying59
 have HR0_1 := Aside0.mk hr0_1
 have HC0_1 := Aside0.mk hc0_1
 clear hr0_1 hc0_1
 have HR1 := Aside0.mk hr1
 have HC1 := Aside0.mk hc1
 clear hr1 hc1
 have HB := Aside0.mk (Below.refl w.heap.size w)
 have H : ((impl_hasNeeds_1.f k l0_1 l1).bind fun t103 => (some t103)) = some r := h
 clear h
 replace H := Option.bind_eq_some_iff.mp H
 obtain ⟨t103, A30, H⟩ := H
 try dsimp only at H
 have A3 := Aside0.mk A30
 clear A30
 obtain rfl := Option.some.inj H
 go_enter Try.func47, Try.ntmps47
 go_wp2_with (first | ((with_reducible refine gate_dst (N := 2) rfl ?_); refine box_event ?hg (N := 2) ?hd (cs := #[.string a0_0, .slice A0_1 l0_1.length c0_1, .int .i64 a0_2]) (t := 59) ?hr ?_; (case hd => rfl); (case hg => rfl); (case hr => first | (go_simp; done) | (go_simp; rfl)); intro gb101 hg w4 hbox hb; have n0_ := Aside0.mk (below_step (by repeat (first | exact HB.out | apply below_alloc | apply pw_below_drewN | apply below_drew1)) hb); have n1_ := Aside0.mk (hbox); have n2_ := Aside0.mk ((by rw [hg]; exact (below_size (by repeat (first | exact HB.out | apply below_alloc | apply pw_below_drewN | apply below_drew1))) : w.heap.size ≤ gb101)); have n3_ := Aside0.mk ((by rw [hg]; exact (below_size (by repeat (first | exact HB.out | apply below_alloc | apply pw_below_drewN | apply below_drew1))) : w.heap.size ≤ gb101)); clear HB; have HB := n0_; have BK101 := n1_; have GW101 := n2_; have GE101 := n3_; clear n0_ n1_ n2_ n3_; clear hb hbox hg) | ((with_reducible refine gate_dst (N := 3) rfl ?_); refine box_event ?hg (N := 3) ?hd (cs := #[.slice A1 l1.length c1]) (t := 34) ?hr ?_; (case hd => rfl); (case hg => rfl); (case hr => first | (go_simp; done) | (go_simp; rfl)); intro gb102 hg w5 hbox hb; have n0_ := Aside0.mk (blk_below (g := gb101) (o := .cells #[.string a0_0, .slice A0_1 l0_1.length c0_1, .int .i64 a0_2] 59 (0, 0)) (by (with_reducible repeat (first | refine blk_drewN ?_ _ | refine blk_drew ?_ | refine blk_alloc ?_ _)); exact BK101.out) hb); have n1_ := Aside0.mk (below_step (by repeat (first | (with_reducible first | exact HB.out | apply below_alloc | apply pw_below_drewN | apply below_drew1 | refine below_set ?_ GE101.out) | exact HB.out)) hb); have n2_ := Aside0.mk (hbox); have n3_ := Aside0.mk ((by rw [hg]; exact (below_size (by repeat (first | (with_reducible first | exact HB.out | apply below_alloc | apply pw_below_drewN | apply below_drew1 | refine below_set ?_ GE101.out) | exact HB.out))) : w.heap.size ≤ gb102)); have n4_ := Aside0.mk ((by rw [hg]; exact (below_size (by repeat (first | (with_reducible first | exact HB.out | apply below_alloc | apply pw_below_drewN | apply below_drew1 | refine below_set ?_ GE101.out) | exact HB.out))) : w.heap.size ≤ gb102)); have n5_ := Aside0.mk ((by rw [hg]; exact Nat.ne_of_lt (blk_lt (g := gb101) (o := .cells #[.string a0_0, .slice A0_1 l0_1.length c0_1, .int .i64 a0_2] 59 (0, 0)) (by (with_reducible repeat (first | refine blk_drewN ?_ _ | refine blk_drew ?_ | refine blk_alloc ?_ _)); exact BK101.out)) : gb101 ≠ gb102)); have n6_ := Aside0.mk ((by rw [hg]; exact Nat.ne_of_gt (blk_lt (g := gb101) (o := .cells #[.string a0_0, .slice A0_1 l0_1.length c0_1, .int .i64 a0_2] 59 (0, 0)) (by (with_reducible repeat (first | refine blk_drewN ?_ _ | refine blk_drew ?_ | refine blk_alloc ?_ _)); exact BK101.out)) : gb102 ≠ gb101)); clear BK101; clear HB; have BK101 := n0_; have HB := n1_; have BK102 := n2_; have GW102 := n3_; have GE102 := n4_; have NB101_102 := n5_; have NB102_101 := n6_; clear n0_ n1_ n2_ n3_ n4_ n5_ n6_; clear hb hbox hg; have hnb6 := NB101_102.out; have hnc6 := NB102_101.out; have hcz7_0 : w5.cell? ⟨gb101, 0, none⟩ = some (.string a0_0) := (blk_cell BK101.out 0).trans rfl; have hcz7_1 : w5.cell? ⟨gb101, 1, none⟩ = some (.slice A0_1 l0_1.length c0_1) := (blk_cell BK101.out 1).trans rfl; have hcz7_2 : w5.cell? ⟨gb101, 2, none⟩ = some (.int .i64 a0_2) := (blk_cell BK101.out 2).trans rfl; have hfz7_0 := blk_frozen BK101.out 0; have hfz7_1 := blk_frozen BK101.out 1; have hfz7_2 := blk_frozen BK101.out 2) | ((with_reducible refine gate_callee (f := 85) rfl ?_); refine goesL_ (some 8) rfl rfl Try.func85 (by kernel_rfl) rfl #[.slice A0_1 l0_1.length c0_1, .func (.func 86) #[] #[.pointer (some ⟨gb102, 0, none⟩)]] rfl (by (try simp only [List.map_toArray, List.map_cons, List.map_nil]); first | done | rfl | (simp only [List.length_drop, List.length_take]; rfl)) ?_; (with_reducible refine (impl_hasNeeds_1.calls k _ _ l0_1 A1 c1 l1 t103 _ ?side1 ?side2 ?side3 ?side4 ?side5 A3.out).mono ?_); (case side1 => repeat (first | exact (Kd.C_below HR0_1.out HB.out) | (with_reducible refine Kd.C_alloc ?_ _) | (with_reducible refine Kd.C_drewN ?_ _) | (with_reducible refine Kd.C_drew ?_))); (case side2 => exact HC0_1.out); (case side3 => repeat (first | exact (Kd.C_below HR1.out HB.out) | (with_reducible refine Kd.C_alloc ?_ _) | (with_reducible refine Kd.C_drewN ?_ _) | (with_reducible refine Kd.C_drew ?_))); (case side4 => exact HC1.out); (case side5 => exact (blk_cell (cs := #[.slice A1 l1.length c1]) (t := 34) (by (with_reducible repeat (first | refine blk_drewN ?_ _ | refine blk_drew ?_ | refine blk_alloc ?_ _)); exact BK102.out) 0).trans rfl); rintro e w8 ⟨rfl, hb⟩; refine ⟨_, rfl, ?_⟩; have n0_ := Aside0.mk (blk_below (g := gb101) (o := .cells #[.string a0_0, .slice A0_1 l0_1.length c0_1, .int .i64 a0_2] 59 (0, 0)) (by (with_reducible repeat (first | refine blk_drewN ?_ _ | refine blk_drew ?_ | refine blk_alloc ?_ _)); exact BK101.out) hb); have n1_ := Aside0.mk (blk_below (g := gb102) (o := .cells #[.slice A1 l1.length c1] 34 (0, 0)) (by (with_reducible repeat (first | refine blk_drewN ?_ _ | refine blk_drew ?_ | refine blk_alloc ?_ _)); exact BK102.out) hb); have n2_ := Aside0.mk (below_step (by repeat (first | (with_reducible first | exact HB.out | apply below_alloc | apply pw_below_drewN | apply below_drew1 | refine below_set ?_ GE101.out | refine below_set ?_ GE102.out) | exact HB.out)) hb); clear BK101; clear BK102; clear HB; have BK101 := n0_; have BK102 := n1_; have HB := n2_; clear n0_ n1_ n2_; (try clear hb)))
 go_ret
 exact ⟨by first | rfl | (simp [*, errW_none, errW_some] <;> rfl), by repeat (first | (with_reducible first | exact HB.out | apply below_alloc | apply pw_below_drewN | apply below_drew1 | refine below_set ?_ GE101.out | refine below_set ?_ GE102.out) | exact HB.out)⟩

/-! ### impl_TeachOrder: function 70 -/
def impl_TeachOrder.p (k : Nat) (l0 : List S59) (t : List Int) (x : Int) : Option Bool := (slices_Contains_int.f k t x).bind fun a => if a = true then some false else (if 0 ≤ x then (if x < (l0.length : Int) then impl_hasNeeds.f k (rd_T59 l0 x).f0 (rd_T59 l0 x).f1 (rd_T59 l0 x).f2 t else none) else none)
theorem impl_TeachOrder.p_mono (k : Nat) (l0 : List S59) (t : List Int) (x : Int) : LeO (impl_TeachOrder.p k l0 t x) (impl_TeachOrder.p (k + 1) l0 t x) := LeO.bind (slices_Contains_int.mono _ _ _) (fun _ => LeO.ite (LeO.refl _) (LeO.ite (LeO.ite (impl_hasNeeds.mono _ _ _ _ _) (LeO.refl _)) (LeO.refl _)))
def impl_TeachOrder.l0 : Nat → List S59 → List Int → Option (List Int × Bool)
 | 0, _, _ => none
 | k + 1, l0, t => if (t.length : Int) < (l0.length : Int) then ((impl_mostUsed.f (impl_TeachOrder.p k l0 t) k l0).bind fun n => if n < 0 then some ([], false) else if t.length < 17592186044416 then impl_TeachOrder.l0 k l0 (t ++ [n]) else none) else some (t, true)
def impl_TeachOrder.f (k : Nat) (l0 : List S59) : Option (List Int × Bool) := (impl_AreWords.f k l0).bind fun a => if a = true then impl_TeachOrder.l0 k l0 [] else some ([], false)
theorem impl_TeachOrder.mono_l : ∀ k, ∀ y0 y1, LeO (impl_TeachOrder.l0 k y0 y1) (impl_TeachOrder.l0 (k + 1) y0 y1)
 | 0 => fun _ _ r h => by simp [impl_TeachOrder.l0] at h
 | k + 1 => by
  intro y0 y1
  rw [impl_TeachOrder.l0, impl_TeachOrder.l0]
  exact LeO.ite (LeO.bind (impl_mostUsed.mono _ _ (fun x => impl_TeachOrder.p_mono k y0 y1 x) _ _) (fun _ => LeO.ite (LeO.refl _) (LeO.ite (impl_TeachOrder.mono_l k _ _) (LeO.refl _)))) (LeO.refl _)
theorem impl_TeachOrder.mono : ∀ a0 k, LeO (impl_TeachOrder.f k a0) (impl_TeachOrder.f (k + 1) a0) := by
 intro a0 k
 unfold impl_TeachOrder.f
 exact LeO.bind (impl_AreWords.mono _ _) (fun _ => LeO.ite (impl_TeachOrder.mono_l k _ _) (LeO.refl _))
set_option maxHeartbeats 1000000
open Go.RowKit Go.Lib Go.Proofs.YthcedgbjpkgoeaaW.PrintWords Go.Proofs.YthcedgbjpkgoeaaW.PrintLast Go.Proofs.YthcedgbjpkgoeaaW.PrintMore Go.Proofs.YthcedgbjpkgoeaaW Go.Proofs.Ythcedgbjpkgoeaa.Q
def impl_TeachOrder.T1 : Bool × List (List Nat × List Nat) := (true, [([], []), ([], []), ([0, 1], [0, 1]), ([2], [2]), ([3, 2], [3]), ([4], [4]), ([4], [4]), ([5, 6, 4], [4, 5, 6]), ([7, 4], [4, 7]), ([4], [4]), ([8, 9, 4, 4], [4, 8, 9]), ([4, 10], [4, 10]), ([11, 10, 0, 1, 2, 3, 4, 5, 6, 7, 8, 9, 10, 11], [11])])
def impl_TeachOrder.B1 : List Nat := [0, 0, 3, 7, 15, 31, 31, 127, 255, 31, 1023, 2047, 4095]
theorem impl_TeachOrder.tab1 : rtab .any (opsOf Try.f94 1) = impl_TeachOrder.T1 := by kernel_rfl
theorem impl_TeachOrder.bits1 : waitsOk impl_TeachOrder.T1.2 impl_TeachOrder.B1 = true := by kernel_rfl
set_option maxHeartbeats 4000000 in
set_option maxRecDepth 100000 in
theorem impl_TeachOrder.lit (k : Nat) (A0 : Option Addr) (c0 : Nat) (l0 : List S59) (At : Option Addr) (ct : Nat) (t : List Int) (x : Int) (b : Bool) (gt gb : Nat) (W : World) (hr0 : Kd.C k59 W A0 l0.length l0) (hrt : Kd.C (Kd.int .i64) W At t.length t) (hct : t.length ≤ ct) (hbt : W.cell? ⟨gt, 0, none⟩ = some (.slice At t.length ct)) (hbb : W.cell? ⟨gb, 0, none⟩ = some (.slice A0 l0.length c0)) (h : impl_TeachOrder.p k l0 t x = some b) :
  Calls Try.prog 94 #[.int .i64 x, .pointer (some ⟨gt, 0, none⟩), .pointer (some ⟨gb, 0, none⟩)] W fun e w' => e = .returned (.bool b) ∧ Below W.heap.size W w' := by
 have hu := Try.underlying59
 have HRT := Aside0.mk hrt
 have HCT := Aside0.mk hct
 clear hrt hct
 unfold impl_TeachOrder.p at h
 obtain ⟨a, A1, h⟩ := Option.bind_eq_some_iff.mp h
 replace A1 := Aside0.mk A1
 cases a with
 | true =>
  rw [if_pos rfl] at h
  obtain rfl := Option.some.inj h
  clear hr0
  go_enter Try.func94, Try.ntmps94
  go_wp2
  refine start_ (n := 13) (S := fun w' => w'.cell? ⟨gt, 0, none⟩ = some (.slice At t.length ct) ∧ w'.cell? ⟨gb, 0, none⟩ = some (.slice A0 l0.length c0)) (ds := []) #[X,X,X,X,X,X,X,X,X,X,X,X,X] (by kernel_rfl) rfl rfl ⟨hbt, hbb⟩ (fun hHeld => ?_); refine with_tabW impl_TeachOrder.tab1 impl_TeachOrder.bits1 (fun HT_ HW_ => ?_)
  have HBB := Aside0.mk (below_drew1 (Below.refl W.heap.size W))
  clear hbt hbb
  generalize W.drew = w2 at HBB hHeld ⊢
  refine take_ (i := 0) (N := some 5) (v := ?_) (a' := ?_) #[Y,X,X,X,X,X,X,X,X,X,X,X,X] rfl rfl (take_ofW HT_.out HW_.out (by kernel_rfl)) (fun _ _ _ h => h) (Or.inl ⟨by rfl, ?_⟩) hHeld ?_ ?_
  rotate_left
  ·rintro w' ⟨s0, s1⟩
   go_simp
   with_reducible rfl
  rotate_left
  ·simp only [Act.put, List.setIfInBounds_toArray, List.set_cons_zero, List.set_cons_succ, i64_w, i32_w]
   rfl
  refine pure_ (i := 1) (N := some 6) (v := ?_) (a' := ?_) #[Y,Y,X,X,X,X,X,X,X,X,X,X,X] rfl rfl (any_of HT_.out (by kernel_rfl)) (fun _ _ _ h => h) (Or.inl ⟨by rfl, ?_⟩) ?_ ?_
  rotate_left
  ·intro w'
   go_simp
   with_reducible rfl
  rotate_left
  ·simp only [Act.put, List.setIfInBounds_toArray, List.set_cons_zero, List.set_cons_succ, i64_w, i32_w]
   rfl
  refine one_ (i := 2) (N := some 7) #[Y,Y,Y,X,X,X,X,X,X,X,X,X,X] rfl rfl (one_of HT_.out (by kernel_rfl)) (by decide) (fun K hK => ?_)
  refine goes_ Try.func60 (by kernel_rfl) rfl #[.slice At t.length ct, .int .i64 x] (by rfl) rfl rfl (by (try simp only [List.map_toArray, List.map_cons, List.map_nil]); first | done | rfl | (simp only [List.length_drop, List.length_take]; rfl)) ?_
  with_reducible refine (slices_Contains_int.calls k _ _ t x true _ (Kd.C_below HRT.out HBB.out) HCT.out A1.out).mono ?_
  rintro e w' ⟨rfl, nd_, rfl⟩
  refine ⟨_, rfl, ?_⟩
  have n0_ := Aside0.mk (pw_below_drewN HBB.out nd_)
  clear HBB
  have HBB := n0_
  clear n0_
  refine hK.out _ _ hHeld (fun hHeld => ?_)
  clear hK K
  refine norm_ (a' := ?_) ?_ ?_
  rotate_left
  ·show Act.put _ (some 7) _ = _
   simp only [Act.put, List.setIfInBounds_toArray, List.set_cons_zero, List.set_cons_succ, i64_w, i32_w]
   rfl
  generalize World.drewN _ nd_ = w2 at HBB hHeld ⊢
  refine pure_ (i := 3) (N := some 8) (v := ?_) (a' := ?_) #[Y,Y,Y,Y,X,X,X,X,X,X,X,X,X] rfl rfl (any_of HT_.out (by kernel_rfl)) (fun _ _ _ h => h) (Or.inl ⟨by rfl, ?_⟩) ?_ ?_
  rotate_left
  ·intro w'
   go_simp
   with_reducible rfl
  rotate_left
  ·simp only [Act.put, List.setIfInBounds_toArray, List.set_cons_zero, List.set_cons_succ, i64_w, i32_w]
   rfl
  refine pure_ (i := 4) (N := some 9) (v := ?_) (a' := ?_) #[Y,Y,Y,Y,Y,X,X,X,X,X,X,X,X] rfl rfl (any_of HT_.out (by kernel_rfl)) (fun _ _ _ h => h) (Or.inl ⟨by rfl, ?_⟩) ?_ ?_
  rotate_left
  ·intro w'
   go_simp
   with_reducible rfl
  rotate_left
  ·simp only [Act.put, List.setIfInBounds_toArray, List.set_cons_zero, List.set_cons_succ, i64_w, i32_w]
   rfl
  refine pure_ (i := 5) (N := some 10) (v := undef) (a' := ?_) #[Y,Y,Y,Y,Y,Y,X,X,X,X,X,X,X] rfl rfl (any_of HT_.out (by kernel_rfl)) (fun _ _ _ h => h) (Or.inr ⟨by rfl, rfl⟩) ?_ ?_
  rotate_left
  ·simp only [Act.put, List.setIfInBounds_toArray, List.set_cons_zero, List.set_cons_succ, i64_w, i32_w]
   rfl
  refine pure_ (i := 6) (N := some 11) (v := undef) (a' := ?_) #[Y,Y,Y,Y,Y,Y,Y,X,X,X,X,X,X] rfl rfl (any_of HT_.out (by kernel_rfl)) (fun _ _ _ h => h) (Or.inr ⟨by rfl, rfl⟩) ?_ ?_
  rotate_left
  ·simp only [Act.put, List.setIfInBounds_toArray, List.set_cons_zero, List.set_cons_succ, i64_w, i32_w]
   rfl
  refine pure_ (i := 7) (N := some 12) (v := undef) (a' := ?_) #[Y,Y,Y,Y,Y,Y,Y,Y,X,X,X,X,X] rfl rfl (any_of HT_.out (by kernel_rfl)) (fun _ _ _ h => h) (Or.inr ⟨by rfl, rfl⟩) ?_ ?_
  rotate_left
  ·simp only [Act.put, List.setIfInBounds_toArray, List.set_cons_zero, List.set_cons_succ, i64_w, i32_w]
   rfl
  refine pure_ (i := 8) (N := some 13) (v := undef) (a' := ?_) #[Y,Y,Y,Y,Y,Y,Y,Y,Y,X,X,X,X] rfl rfl (any_of HT_.out (by kernel_rfl)) (fun _ _ _ h => h) (Or.inr ⟨by rfl, rfl⟩) ?_ ?_
  rotate_left
  ·simp only [Act.put, List.setIfInBounds_toArray, List.set_cons_zero, List.set_cons_succ, i64_w, i32_w]
   rfl
  refine pure_ (i := 9) (N := some 14) (v := undef) (a' := ?_) #[Y,Y,Y,Y,Y,Y,Y,Y,Y,Y,X,X,X] rfl rfl (any_of HT_.out (by kernel_rfl)) (fun _ _ _ h => h) (Or.inr ⟨by rfl, rfl⟩) ?_ ?_
  rotate_left
  ·simp only [Act.put, List.setIfInBounds_toArray, List.set_cons_zero, List.set_cons_succ, i64_w, i32_w]
   rfl
  refine pure_ (i := 10) (N := some 15) (v := undef) (a' := ?_) #[Y,Y,Y,Y,Y,Y,Y,Y,Y,Y,Y,X,X] rfl rfl (any_of HT_.out (by kernel_rfl)) (fun _ _ _ h => h) (Or.inr ⟨by rfl, rfl⟩) ?_ ?_
  rotate_left
  ·simp only [Act.put, List.setIfInBounds_toArray, List.set_cons_zero, List.set_cons_succ, i64_w, i32_w]
   rfl
  refine pure_ (i := 11) (N := some 16) (v := ?_) (a' := ?_) #[Y,Y,Y,Y,Y,Y,Y,Y,Y,Y,Y,Y,X] rfl rfl (any_of HT_.out (by kernel_rfl)) (fun _ _ _ h => h) (Or.inl ⟨by rfl, ?_⟩) ?_ ?_
  rotate_left
  ·intro w'
   go_simp
   with_reducible rfl
  rotate_left
  ·simp only [Act.put, List.setIfInBounds_toArray, List.set_cons_zero, List.set_cons_succ, i64_w, i32_w]
   rfl
  refine pure_ (i := 12) (N := some 4) (v := ?_) (a' := ?_) #[Y,Y,Y,Y,Y,Y,Y,Y,Y,Y,Y,Y,Y] rfl rfl (any_of HT_.out (by kernel_rfl)) (fun _ _ _ h => h) (Or.inl ⟨by rfl, ?_⟩) ?_ ?_
  rotate_left
  ·intro w'
   go_simp
   with_reducible rfl
  rotate_left
  ·simp only [Act.put, List.setIfInBounds_toArray, List.set_cons_zero, List.set_cons_succ, i64_w, i32_w]
   rfl
  refine done_ (done_of HT_.out (by kernel_rfl)) ?_
  try go_wp2
  go_ret
  exact ⟨rfl, HBB.out⟩
 | false =>
  rw [if_neg (by decide)] at h
  split at h
  case isFalse => cases h
  rename_i p101
  split at h
  case isFalse => cases h
  rename_i q101
  obtain ⟨ad101, A101_1, c101_1, e101, hx101_0, hx101_1, hx101_2, hl101_1, hi101_1⟩ := at_T59 hr0 x p101 q101
  cases e101
  have hcon := fun W' (hW : Below W.heap.size W W') => (impl_hasNeeds.calls k (rd_T59 l0 x).f0 A101_1 c101_1 (rd_T59 l0 x).f1 (rd_T59 l0 x).f2 At ct t b W' (Kd.C_below hi101_1 hW) hl101_1 (Kd.C_below HRT.out hW) HCT.out h)
  have HN := Aside0.mk hcon
  have P101 := eq_true p101
  have Q101 := eq_true q101
  clear hcon hr0 h hi101_1 p101 q101
  generalize (rd_T59 l0 x).f0 = y0 at hx101_0 HN
  generalize (rd_T59 l0 x).f2 = y2 at hx101_2 HN
  generalize (rd_T59 l0 x).f1 = y1 at hx101_1 HN hl101_1
  go_enter Try.func94, Try.ntmps94
  go_wp2
  refine start_ (n := 13) (S := fun w' => w'.cell? ⟨gt, 0, none⟩ = some (.slice At t.length ct) ∧ w'.cell? ⟨gb, 0, none⟩ = some (.slice (some ad101) l0.length c0) ∧ w'.cell? (ad101.add ((x).toNat * 3)) = some (.string y0) ∧ w'.cell? ⟨(ad101.add ((x).toNat * 3)).block, (ad101.add ((x).toNat * 3)).off + 1, none⟩ = some (.slice A101_1 y1.length c101_1) ∧ w'.cell? ⟨(ad101.add ((x).toNat * 3)).block, (ad101.add ((x).toNat * 3)).off + 2, none⟩ = some (.int .i64 y2)) (ds := []) #[X,X,X,X,X,X,X,X,X,X,X,X,X] (by kernel_rfl) rfl rfl ⟨hbt, hbb, hx101_0, hx101_1, hx101_2⟩ (fun hHeld => ?_); refine with_tabW impl_TeachOrder.tab1 impl_TeachOrder.bits1 (fun HT_ HW_ => ?_)
  have HBB := Aside0.mk (below_drew1 (Below.refl W.heap.size W))
  clear hbt hbb hx101_0 hx101_1 hx101_2
  generalize W.drew = w2 at HBB hHeld ⊢
  refine take_ (i := 0) (N := some 5) (v := ?_) (a' := ?_) #[Y,X,X,X,X,X,X,X,X,X,X,X,X] rfl rfl (take_ofW HT_.out HW_.out (by kernel_rfl)) (fun _ _ _ h => h) (Or.inl ⟨by rfl, ?_⟩) hHeld ?_ ?_
  rotate_left
  ·rintro w' ⟨s0, s1, s2, s3, s4⟩
   go_simp
   with_reducible rfl
  rotate_left
  ·simp only [Act.put, List.setIfInBounds_toArray, List.set_cons_zero, List.set_cons_succ, i64_w, i32_w]
   rfl
  refine pure_ (i := 1) (N := some 6) (v := ?_) (a' := ?_) #[Y,Y,X,X,X,X,X,X,X,X,X,X,X] rfl rfl (any_of HT_.out (by kernel_rfl)) (fun _ _ _ h => h) (Or.inl ⟨by rfl, ?_⟩) ?_ ?_
  rotate_left
  ·intro w'
   go_simp
   with_reducible rfl
  rotate_left
  ·simp only [Act.put, List.setIfInBounds_toArray, List.set_cons_zero, List.set_cons_succ, i64_w, i32_w]
   rfl
  refine one_ (i := 2) (N := some 7) #[Y,Y,Y,X,X,X,X,X,X,X,X,X,X] rfl rfl (one_of HT_.out (by kernel_rfl)) (by decide) (fun K hK => ?_)
  refine goes_ Try.func60 (by kernel_rfl) rfl #[.slice At t.length ct, .int .i64 x] (by rfl) rfl rfl (by (try simp only [List.map_toArray, List.map_cons, List.map_nil]); first | done | rfl | (simp only [List.length_drop, List.length_take]; rfl)) ?_
  with_reducible refine (slices_Contains_int.calls k _ _ t x false _ (Kd.C_below HRT.out HBB.out) HCT.out A1.out).mono ?_
  rintro e w' ⟨rfl, nd_, rfl⟩
  refine ⟨_, rfl, ?_⟩
  have n0_ := Aside0.mk (pw_below_drewN HBB.out nd_)
  clear HBB
  have HBB := n0_
  clear n0_
  refine hK.out _ _ hHeld (fun hHeld => ?_)
  clear hK K
  refine norm_ (a' := ?_) ?_ ?_
  rotate_left
  ·show Act.put _ (some 7) _ = _
   simp only [Act.put, List.setIfInBounds_toArray, List.set_cons_zero, List.set_cons_succ, i64_w, i32_w]
   rfl
  generalize World.drewN _ nd_ = w2 at HBB hHeld ⊢
  refine pure_ (i := 3) (N := some 8) (v := ?_) (a' := ?_) #[Y,Y,Y,Y,X,X,X,X,X,X,X,X,X] rfl rfl (any_of HT_.out (by kernel_rfl)) (fun _ _ _ h => h) (Or.inl ⟨by rfl, ?_⟩) ?_ ?_
  rotate_left
  ·intro w'
   go_simp
   with_reducible rfl
  rotate_left
  ·simp only [Act.put, List.setIfInBounds_toArray, List.set_cons_zero, List.set_cons_succ, i64_w, i32_w]
   rfl
  refine pure_ (i := 4) (N := some 9) (v := ?_) (a' := ?_) #[Y,Y,Y,Y,Y,X,X,X,X,X,X,X,X] rfl rfl (any_of HT_.out (by kernel_rfl)) (fun _ _ _ h => h) (Or.inl ⟨by rfl, ?_⟩) ?_ ?_
  rotate_left
  ·intro w'
   go_simp
   with_reducible rfl
  rotate_left
  ·simp only [Act.put, List.setIfInBounds_toArray, List.set_cons_zero, List.set_cons_succ, i64_w, i32_w]
   rfl
  refine take_ (i := 5) (N := some 10) (v := ?_) (a' := ?_) #[Y,Y,Y,Y,Y,Y,X,X,X,X,X,X,X] rfl rfl (take_ofW HT_.out HW_.out (by kernel_rfl)) (fun _ _ _ h => h) (Or.inl ⟨by rfl, ?_⟩) hHeld ?_ ?_
  rotate_left
  ·rintro w' ⟨s0, s1, s2, s3, s4⟩
   go_simp
   with_reducible rfl
  rotate_left
  ·simp only [Act.put, List.setIfInBounds_toArray, List.set_cons_zero, List.set_cons_succ, i64_w, i32_w]
   rfl
  refine pure_ (i := 6) (N := some 11) (v := ?_) (a' := ?_) #[Y,Y,Y,Y,Y,Y,Y,X,X,X,X,X,X] rfl rfl (any_of HT_.out (by kernel_rfl)) (fun _ _ _ h => h) (Or.inl ⟨by rfl, ?_⟩) ?_ ?_
  rotate_left
  ·intro w'
   go_simp
   with_reducible rfl
  rotate_left
  ·simp only [Act.put, List.setIfInBounds_toArray, List.set_cons_zero, List.set_cons_succ, i64_w, i32_w]
   rfl
  refine pure_ (i := 7) (N := some 12) (v := ?_) (a' := ?_) #[Y,Y,Y,Y,Y,Y,Y,Y,X,X,X,X,X] rfl rfl (any_of HT_.out (by kernel_rfl)) (fun _ _ _ h => h) (Or.inl ⟨by rfl, ?_⟩) ?_ ?_
  rotate_left
  ·intro w'
   go_simp
   with_reducible rfl
  rotate_left
  ·simp only [Act.put, List.setIfInBounds_toArray, List.set_cons_zero, List.set_cons_succ, i64_w, i32_w]
   rfl
  refine take_ (i := 8) (N := some 13) (v := ?_) (a' := ?_) #[Y,Y,Y,Y,Y,Y,Y,Y,Y,X,X,X,X] rfl rfl (take_ofW HT_.out HW_.out (by kernel_rfl)) (fun _ _ _ h => h) (Or.inl ⟨by rfl, ?_⟩) hHeld ?_ ?_
  rotate_left
  ·rintro w' ⟨s0, s1, s2, s3, s4⟩
   go_simp
   with_reducible rfl
  rotate_left
  ·simp only [Act.put, List.setIfInBounds_toArray, List.set_cons_zero, List.set_cons_succ, i64_w, i32_w]
   rfl
  refine take_ (i := 9) (N := some 14) (v := ?_) (a' := ?_) #[Y,Y,Y,Y,Y,Y,Y,Y,Y,Y,X,X,X] rfl rfl (take_ofW HT_.out HW_.out (by kernel_rfl)) (fun _ _ _ h => h) (Or.inl ⟨by rfl, ?_⟩) hHeld ?_ ?_
  rotate_left
  ·rintro w' ⟨s0, s1, s2, s3, s4⟩
   go_simp
   with_reducible rfl
  rotate_left
  ·simp only [Act.put, List.setIfInBounds_toArray, List.set_cons_zero, List.set_cons_succ, i64_w, i32_w]
   rfl
  refine one_ (i := 10) (N := some 15) #[Y,Y,Y,Y,Y,Y,Y,Y,Y,Y,Y,X,X] rfl rfl (one_of HT_.out (by kernel_rfl)) (by decide) (fun K hK => ?_)
  refine goes_ Try.func47 (by kernel_rfl) rfl #[.agg #[.string y0, .slice A101_1 y1.length c101_1, .int .i64 y2], .slice At t.length ct] (by rfl) rfl rfl (by (try simp only [List.map_toArray, List.map_cons, List.map_nil]); first | done | rfl | (simp only [List.length_drop, List.length_take]; rfl)) ?_
  with_reducible refine (HN.out _ HBB.out).mono ?_
  rintro e w' ⟨rfl, hb'⟩
  refine ⟨_, rfl, ?_⟩
  obtain ⟨s0, s1, s2, s3, s4⟩ := hHeld
  refine hK.out _ _ ⟨(hb'.cell (World.block_lt_of_cell? _ _ s0)).trans s0, (hb'.cell (World.block_lt_of_cell? _ _ s1)).trans s1, (hb'.cell (World.block_lt_of_cell? _ _ s2)).trans s2, (hb'.cell (World.block_lt_of_cell? _ _ s3)).trans s3, (hb'.cell (World.block_lt_of_cell? _ _ s4)).trans s4⟩ (fun hHeld => ?_)
  have n0_ := Aside0.mk (below_step HBB.out hb')
  clear HBB
  have HBB := n0_
  clear n0_ hb'
  clear hK K
  refine norm_ (a' := ?_) ?_ ?_
  rotate_left
  ·show Act.put _ (some 15) _ = _
   simp only [Act.put, List.setIfInBounds_toArray, List.set_cons_zero, List.set_cons_succ, i64_w, i32_w]
   rfl
  refine pure_ (i := 11) (N := some 16) (v := ?_) (a' := ?_) #[Y,Y,Y,Y,Y,Y,Y,Y,Y,Y,Y,Y,X] rfl rfl (any_of HT_.out (by kernel_rfl)) (fun _ _ _ h => h) (Or.inl ⟨by rfl, ?_⟩) ?_ ?_
  rotate_left
  ·intro w'
   go_simp
   with_reducible rfl
  rotate_left
  ·simp only [Act.put, List.setIfInBounds_toArray, List.set_cons_zero, List.set_cons_succ, i64_w, i32_w]
   rfl
  refine pure_ (i := 12) (N := some 4) (v := ?_) (a' := ?_) #[Y,Y,Y,Y,Y,Y,Y,Y,Y,Y,Y,Y,Y] rfl rfl (any_of HT_.out (by kernel_rfl)) (fun _ _ _ h => h) (Or.inl ⟨by rfl, ?_⟩) ?_ ?_
  rotate_left
  ·intro w'
   go_simp
   with_reducible rfl
  rotate_left
  ·simp only [Act.put, List.setIfInBounds_toArray, List.set_cons_zero, List.set_cons_succ, i64_w, i32_w]
   rfl
  refine done_ (done_of HT_.out (by kernel_rfl)) ?_
  try go_wp2
  go_ret
  exact ⟨rfl, HBB.out⟩
set_option maxHeartbeats 3000000 in
set_option maxRecDepth 100000 in
theorem impl_TeachOrder.calls (k : Nat) (A0 : Option Addr) (c0 : Nat) (l0 : List S59) (r1 : List Int) (r2 : Bool) (w : World) (hr0 : Kd.C k59 w A0 l0.length l0) (hc0 : l0.length ≤ c0) (h : impl_TeachOrder.f k l0 = some (r1, r2)) :
  Calls Try.prog 70 #[.slice A0 l0.length c0] w fun e w' => ∃ v0_ : Value, e = .returned (.tuple #[v0_, .bool r2]) ∧ Kd.R (Kd.int .i64) 3 w' w.heap.size (fun _ => True) v0_ r1 ∧ Below w.heap.size w w' := by
 have eg : ∀ args w, (callFunc 94 args).run Try.prog w = .ok (.enter 94 args) w := enters_of Try.func94 (by kernel_rfl) rfl
 have HR0 := Aside0.mk hr0
 have HC0 := Aside0.mk hc0
 clear hr0 hc0
 have HB := Aside0.mk (Below.refl w.heap.size w)
 unfold impl_TeachOrder.f at h
 obtain ⟨a, A1, h⟩ := Option.bind_eq_some_iff.mp h
 replace A1 := Aside0.mk A1
 cases a with
 | false =>
  rw [if_neg (by decide)] at h
  simp only [Option.some.injEq, Prod.mk.injEq] at h
  obtain ⟨rfl, rfl⟩ := h
  go_enter Try.func70, Try.ntmps70
  go_wp2_with (first | ((with_reducible refine gate_dst (N := 1) rfl ?_); refine box_event ?hg (N := 1) ?hd (cs := #[.slice A0 l0.length c0]) (t := 28) ?hr ?_; (case hd => rfl); (case hg => rfl); (case hr => first | (go_simp; done) | (go_simp; rfl)); intro g2 hg w1 hbox hb; have BK2 := Aside0.mk hbox; have GE2 := Aside0.mk (show w.heap.size ≤ g2 from Nat.le_of_eq hg.symm); have n1_ := Aside0.mk (below_step HB.out hb); clear HB; have HB := n1_; clear n1_ hb hg hbox; have hx2 := (blk_cell BK2.out 0).trans (show (#[Value.slice A0 l0.length c0] : Array Value)[0]? = some (.slice A0 l0.length c0) from rfl)) | (go_at_call 44; refine (impl_AreWords.calls k _ _ l0 false _ (Kd.C_below HR0.out HB.out) HC0.out A1.out).mono ?_; rintro e w5 ⟨rfl, hb⟩; have n0_ := Aside0.mk (below_step HB.out hb); have n1_ := Aside0.mk (blk_below BK2.out hb); clear HB BK2 hx2; have HB := n0_; have BK2 := n1_; clear n0_ n1_ hb; have hx2 := (blk_cell BK2.out 0).trans (show (#[Value.slice A0 l0.length c0] : Array Value)[0]? = some (.slice A0 l0.length c0) from rfl)))
  go_ret2
  exact ⟨.slice none 0 0, by first | rfl | (simp; done), Kd.R_nil _ _ _ _ _, HB.out⟩
 | true =>
  rw [if_pos rfl] at h
  have H' := Aside0.mk h
  clear h
  go_enter Try.func70, Try.ntmps70
  go_wp2_with (first | ((with_reducible refine gate_dst (N := 1) rfl ?_); refine box_event ?hg (N := 1) ?hd (cs := #[.slice A0 l0.length c0]) (t := 28) ?hr ?_; (case hd => rfl); (case hg => rfl); (case hr => first | (go_simp; done) | (go_simp; rfl)); intro g2 hg w1 hbox hb; have BK2 := Aside0.mk hbox; have GE2 := Aside0.mk (show w.heap.size ≤ g2 from Nat.le_of_eq hg.symm); have n1_ := Aside0.mk (below_step HB.out hb); clear HB; have HB := n1_; clear n1_ hb hg hbox; have hx2 := (blk_cell BK2.out 0).trans (show (#[Value.slice A0 l0.length c0] : Array Value)[0]? = some (.slice A0 l0.length c0) from rfl)) | (go_at_call 44; refine (impl_AreWords.calls k _ _ l0 true _ (Kd.C_below HR0.out HB.out) HC0.out A1.out).mono ?_; rintro e w5 ⟨rfl, hb⟩; have n0_ := Aside0.mk (below_step HB.out hb); have n1_ := Aside0.mk (blk_below BK2.out hb); clear HB BK2 hx2; have HB := n0_; have BK2 := n1_; clear n0_ n1_ hb; have hx2 := (blk_cell BK2.out 0).trans (show (#[Value.slice A0 l0.length c0] : Array Value)[0]? = some (.slice A0 l0.length c0) from rfl)) | ((with_reducible refine gate_dst (N := 4) rfl ?_); refine box_event ?hg (N := 4) ?hd (cs := #[.slice none 0 0]) (t := 34) ?hr ?_; (case hd => rfl); (case hg => rfl); (case hr => first | (go_simp; done) | (go_simp; rfl)); intro g7 hg w6 hbox hb; have n0_ := Aside0.mk (blk_below BK2.out hb); have NE27 := Aside0.mk (show g2 ≠ g7 from by have h_ := blk_lt BK2.out; rw [hg]; exact Nat.ne_of_lt h_); have GE7 := Aside0.mk (show w.heap.size ≤ g7 from by rw [hg]; exact below_size HB.out); have n1_ := Aside0.mk (below_step HB.out hb); have BK7 := Aside0.mk hbox; clear HB BK2 hx2 hb hg hbox; have HB := n1_; have BK2 := n0_; clear n0_ n1_))
  try simp only [Act.put, List.setIfInBounds_toArray, List.set_cons_zero, List.set_cons_succ]
  go_loopg [] k (fun kq w' => ∃ (t : List Int) (ut : Value), Aside0 (impl_TeachOrder.l0 kq l0 t = some (r1, r2)) ∧ Aside0 (kq ≤ k) ∧ Aside0 (w'.heap[g2]? = some (.cells #[.slice A0 l0.length c0] 28 (0, 0))) ∧ Aside0 (w'.heap[g7]? = some (.cells #[ut] 34 (0, 0))) ∧ Aside0 (Kd.R (Kd.int .i64) 3 w' w.heap.size (fun k_ => k_ ≠ g2 ∧ k_ ≠ g7) ut t) ∧ Aside0 (Below w.heap.size w w'))
  case atStart => exact ⟨[], .slice none 0 0, H', ⟨Nat.le_refl _⟩, BK2, BK7, ⟨Kd.R_nil _ _ _ _ _⟩, HB⟩
  case round =>
   clear H' HB BK2 BK7
   obtain ⟨t, ut, HA, HK1, BK2, BK7, HRT, HB⟩ := hrel
   obtain ⟨At, ct, rfl⟩ := Kd.R_slice HRT.out
   have hx2 := (blk_cell BK2.out 0).trans (show (#[Value.slice A0 l0.length c0] : Array Value)[0]? = some (.slice A0 l0.length c0) from rfl)
   have hx7 := (blk_cell BK7.out 0).trans (show (#[Value.slice At t.length ct] : Array Value)[0]? = some (.slice At t.length ct) from rfl)
   cases gk with
   | zero => exact absurd HA.out (by simp [impl_TeachOrder.l0])
   | succ k1 =>
    have H := HA.out
    clear HA
    rw [impl_TeachOrder.l0] at H
    by_cases c1 : (t.length : Int) < (l0.length : Int)
    ·rw [if_pos c1] at H
     have c1b0 : decide ((t.length : Int) < (l0.length : Int)) = true := decide_eq_true c1
     have c1b1 : decide (t.length < l0.length) = true := decide_eq_true (by omega)
     have c1b2 : (t.length < l0.length) = True := eq_true (by omega)
     clear c1
     obtain ⟨n, A6, H⟩ := Option.bind_eq_some_iff.mp H
     replace A6 := Aside0.mk A6
     by_cases c3 : n < 0
     ·rw [if_pos c3] at H
      have c3b0 : decide (n < 0) = true := decide_eq_true c3
      simp only [Option.some.injEq, Prod.mk.injEq] at H
      obtain ⟨rfl, rfl⟩ := H
      clear c3
      go_wp2_with (first | (go_at_call 58; refine (impl_mostUsed.calls (impl_TeachOrder.p k1 l0 t) 94 #[.pointer (some ⟨g7, 0, none⟩), .pointer (some ⟨g2, 0, none⟩)] eg k1 _ _ l0 n _ ?hp_ (Kd.C_below HR0.out HB.out) HC0.out A6.out).mono ?_; (case hp_ => intro W x b hW px qx hpx; exact impl_TeachOrder.lit k1 A0 c0 l0 At ct t x b g7 g2 W (Kd.C_below HR0.out (below_step HB.out hW)) (Kd.C_below (Kd.R_reads' HRT.out).2.2 hW) (Kd.R_reads' HRT.out).2.1 ((hW.cell (World.block_lt_of_cell? _ _ hx7)).trans hx7) ((hW.cell (World.block_lt_of_cell? _ _ hx2)).trans hx2) hpx); rintro e w9 ⟨rfl, hb⟩; have n0_ := Aside0.mk (blk_below BK2.out hb); have n1_ := Aside0.mk (blk_below BK7.out hb); have n2_ := Aside0.mk (Kd.R_below HRT.out hb); have n3_ := Aside0.mk (below_step HB.out hb); clear BK2 BK7 HRT HB hx2 hx7; have BK2 := n0_; have BK7 := n1_; have HRT := n2_; have HB := n3_; clear n0_ n1_ n2_ n3_ hb; have hx2 := (blk_cell BK2.out 0).trans (show (#[Value.slice A0 l0.length c0] : Array Value)[0]? = some (.slice A0 l0.length c0) from rfl); have hx7 := (blk_cell BK7.out 0).trans (show (#[Value.slice At t.length ct] : Array Value)[0]? = some (.slice At t.length ct) from rfl)))
      go_ret2
      exact ⟨.slice none 0 0, by first | rfl | (simp; done), Kd.R_nil _ _ _ _ _, HB.out⟩
     ·rw [if_neg c3] at H
      have c3b0 : decide (n < 0) = false := decide_eq_false c3
      clear c3
      by_cases c7 : t.length < 17592186044416
      case neg => rw [if_neg c7] at H; cases H
      rw [if_pos c7] at H
      have LM := Aside0.mk c7
      have H' := Aside0.mk H
      clear H c7
      go_wp2_with (first | (go_at_call 58; refine (impl_mostUsed.calls (impl_TeachOrder.p k1 l0 t) 94 #[.pointer (some ⟨g7, 0, none⟩), .pointer (some ⟨g2, 0, none⟩)] eg k1 _ _ l0 n _ ?hp_ (Kd.C_below HR0.out HB.out) HC0.out A6.out).mono ?_; (case hp_ => intro W x b hW px qx hpx; exact impl_TeachOrder.lit k1 A0 c0 l0 At ct t x b g7 g2 W (Kd.C_below HR0.out (below_step HB.out hW)) (Kd.C_below (Kd.R_reads' HRT.out).2.2 hW) (Kd.R_reads' HRT.out).2.1 ((hW.cell (World.block_lt_of_cell? _ _ hx7)).trans hx7) ((hW.cell (World.block_lt_of_cell? _ _ hx2)).trans hx2) hpx); rintro e w9 ⟨rfl, hb⟩; have n0_ := Aside0.mk (blk_below BK2.out hb); have n1_ := Aside0.mk (blk_below BK7.out hb); have n2_ := Aside0.mk (Kd.R_below HRT.out hb); have n3_ := Aside0.mk (below_step HB.out hb); clear BK2 BK7 HRT HB hx2 hx7; have BK2 := n0_; have BK7 := n1_; have HRT := n2_; have HB := n3_; clear n0_ n1_ n2_ n3_ hb; have hx2 := (blk_cell BK2.out 0).trans (show (#[Value.slice A0 l0.length c0] : Array Value)[0]? = some (.slice A0 l0.length c0) from rfl); have hx7 := (blk_cell BK7.out 0).trans (show (#[Value.slice At t.length ct] : Array Value)[0]? = some (.slice At t.length ct) from rfl)) | ((with_reducible refine gate_builtin (b := .append) (xs := #[.tmp 19, .tmp 21]) rfl ?_); at_builtin; refine Kd.R_append (Kd.int .i64) (w0 := w) w.heap.size rfl (.tmp 19) (.tmp 21) 34 3 (.int .i64 0) 8 rfl Try.underlying34 info3 rfl (by decide) (by omega) (.slice At t.length ct) t n [.int .i64 n] (fun k_ => k_ ≠ g2 ∧ k_ ≠ g7) (fun _ => False) rfl rfl ?aP (fun _ hk => hk.elim) ?aF ?aO ?aB ?aS ?aL ?_; (case aP => exact rfl); (case aB => exact HB.out); (case aF => exact (fun k_ hk => ⟨Kd.freshB BK2.out k_ hk, Kd.freshB BK7.out k_ hk⟩)); (case aO => exact HRT.out); (case aS => exact below_size HB.out); (case aL => have := LM.out; omega); intro v10 w10 ho hb hg hat; obtain ⟨A10, n10, c10, rfl⟩ : ∃ (A_ : Option Addr) (n_ c_ : Nat), v10 = Value.slice A_ n_ c_ := (by obtain ⟨A_, c_, e_⟩ := Kd.R_slice ho; exact ⟨A_, _, c_, e_⟩); have n0_ := Aside0.mk (blk_grown BK7.out hg (Kd.R_away HRT.out (fun _ h_ => h_.2))); have n1_ := Aside0.mk (blk_grown BK2.out hg (Kd.R_away HRT.out (fun _ h_ => h_.1))); clear BK7 BK2 HRT HB hx2 hx7; have BK7 := n0_; have BK2 := n1_; have HRT := Aside0.mk ho; have HB := Aside0.mk hb; clear n0_ n1_ ho hb hg hat; have hz7 := (blk_cell BK7.out 0).trans (show (#[Value.slice At t.length ct] : Array Value)[0]? = some (.slice At t.length ct) from rfl); have hf7 := blk_frozen BK7.out 0))
      go_roundg k1
      case measure => have := HK1.out; omega
      case rel => exact ⟨t ++ [n], _, H', ⟨by have := HK1.out; omega⟩, ⟨blk_far BK2.out NE27.out _⟩, ⟨blk_put BK7.out 0 _ rfl⟩, ⟨Kd.R_far HRT.out (fun _ hk => hk.2) _⟩, ⟨below_set HB.out GE7.out⟩⟩
    ·rw [if_neg c1] at H
     have c1b0 : decide ((t.length : Int) < (l0.length : Int)) = false := decide_eq_false c1
     have c1b1 : decide (t.length < l0.length) = false := decide_eq_false (by omega)
     have c1b2 : (t.length < l0.length) = False := eq_false (by omega)
     clear c1
     simp only [Option.some.injEq, Prod.mk.injEq] at H
     obtain ⟨rfl, rfl⟩ := H
     go_wp2
     go_ret2
     exact ⟨_, by first | rfl | (simp; done), Kd.R_mono HRT.out (fun _ _ => trivial), HB.out⟩


/-! ### impl_neededFor: function 72 -/
mutual
def impl_neededFor.l0 : Nat → List (S59) → List Int → Int → Option (List Int)
 | 0, _, _, _ => none
 | k + 1, x0, x5, x6 => if x6 < (x5.length : Int) then (if 0 ≤ x6 then (if 0 ≤ (rd x5 x6) then (if (rd x5 x6) < (x0.length : Int) then (impl_neededFor.l1 k x0 x5 x6 ((rd_T59 x0 (rd x5 x6)).f1) (((rd_T59 x0 (rd x5 x6)).f1).length : Int) 0) else (none)) else (none)) else (none)) else ((slices_Sort_int.f x5).bind fun t105 => (some t105))
def impl_neededFor.l1 : Nat → List (S59) → List Int → Int → List Int → Int → Int → Option (List Int)
 | 0, _, _, _, _, _, _ => none
 | k + 1, x0, x5, x6, x28, x29, x30 => if x30 < x29 then (if 0 ≤ x30 then (if x30 < (x28.length : Int) then ((slices_Contains_int.f k x5 (rd x28 x30)).bind fun t109 => (if t109 = true then (impl_neededFor.l1 k x0 x5 x6 x28 x29 (wrap64 (x30 + 1))) else (if x5.length < 17592186044416 then (impl_neededFor.l1 k x0 (x5 ++ [rd x28 x30]) x6 x28 x29 (wrap64 (x30 + 1))) else (none)))) else (none)) else (none)) else (impl_neededFor.l0 k x0 x5 (wrap64 (x6 + 1)))
end
def impl_neededFor.f (k : Nat) (l0 : List (S59)) (a1 : Int) : Option (List Int) := if 0 ≤ a1 then (if a1 < (l0.length : Int) then ((slices_Clone_int.f ((rd_T59 l0 a1).f1)).bind fun t102 => (impl_neededFor.l0 k l0 t102 0)) else (none)) else (none)
theorem impl_neededFor.mono_l : ∀ k, (∀ y0 y1 y2, LeO (impl_neededFor.l0 k y0 y1 y2) (impl_neededFor.l0 (k + 1) y0 y1 y2)) ∧ (∀ y0 y1 y2 y3 y4 y5, LeO (impl_neededFor.l1 k y0 y1 y2 y3 y4 y5) (impl_neededFor.l1 (k + 1) y0 y1 y2 y3 y4 y5))
 | 0 => ⟨fun _ _ _ r h => by simp [impl_neededFor.l0] at h, fun _ _ _ _ _ _ r h => by simp [impl_neededFor.l1] at h⟩
 | k + 1 => by
  obtain ⟨ih0, ih1⟩ := impl_neededFor.mono_l k
  refine ⟨?_, ?_⟩
  ·intro y0 y1 y2
   unfold impl_neededFor.l0
   repeat' first
   | (with_reducible exact ih0 _ _ _)
   | (with_reducible exact ih1 _ _ _ _ _ _)
   | (with_reducible exact slices_Contains_int.mono _ _ _)
   | (with_reducible exact LeO.refl _)
   | (with_reducible exact LeO.none _)
   | (with_reducible refine LeO.ite ?_ ?_)
   | (with_reducible refine LeO.bind ?_ (fun _ => ?_))
  ·intro y0 y1 y2 y3 y4 y5
   unfold impl_neededFor.l1
   repeat' first
   | (with_reducible exact ih0 _ _ _)
   | (with_reducible exact ih1 _ _ _ _ _ _)
   | (with_reducible exact slices_Contains_int.mono _ _ _)
   | (with_reducible exact LeO.refl _)
   | (with_reducible exact LeO.none _)
   | (with_reducible refine LeO.ite ?_ ?_)
   | (with_reducible refine LeO.bind ?_ (fun _ => ?_))
theorem impl_neededFor.mono : ∀ a0 a1 k, LeO (impl_neededFor.f k a0 a1) (impl_neededFor.f (k + 1) a0 a1) := by
 intro a0 a1 k
 obtain ⟨ih0, ih1⟩ := impl_neededFor.mono_l k
 unfold impl_neededFor.f
 repeat' first
   | (with_reducible exact ih0 _ _ _)
   | (with_reducible exact ih1 _ _ _ _ _ _)
   | (with_reducible exact slices_Contains_int.mono _ _ _)
   | (with_reducible exact LeO.refl _)
   | (with_reducible exact LeO.none _)
   | (with_reducible refine LeO.ite ?_ ?_)
   | (with_reducible refine LeO.bind ?_ (fun _ => ?_))
set_option maxHeartbeats 3000000 in
set_option maxRecDepth 100000 in
theorem impl_neededFor.calls (k : Nat) (A0 : Option Addr) (c0 : Nat) (l0 : List (S59)) (a1 : Int) (r : List Int) (w : World) (hr0 : Kd.C k59 w A0 l0.length l0) (hc0 : l0.length ≤ c0) (h : impl_neededFor.f k l0 a1 = some r) :
  Calls Try.prog 72 #[.slice A0 l0.length c0, .int .i64 a1] w fun e w' => ∃ v0_ : Value, e = .returned (v0_) ∧ Kd.R (Kd.int .i64) 3 w' w.heap.size (fun _ => True) v0_ r ∧ Below w.heap.size w w' := by
 have HR0 := Aside0.mk hr0
 have HC0 := Aside0.mk hc0
 clear hr0 hc0
 have HB := Aside0.mk (Below.refl w.heap.size w)
 have H : (if 0 ≤ a1 then (if a1 < (l0.length : Int) then ((slices_Clone_int.f ((rd_T59 l0 a1).f1)).bind fun t102 => (impl_neededFor.l0 k l0 t102 0)) else (none)) else (none)) = some r := h
 clear h
 by_cases c3 : 0 ≤ a1
 ·rw [if_pos c3] at H
  have c3b0 : decide (0 ≤ a1) = true := decide_eq_true c3
  clear c3
  by_cases c4 : a1 < (l0.length : Int)
  ·rw [if_pos c4] at H
   have c4b0 : decide (a1 < (l0.length : Int)) = true := decide_eq_true c4
   clear c4
   replace H := Option.bind_eq_some_iff.mp H
   obtain ⟨t102, A50, H⟩ := H
   try dsimp only at H
   have A5 := Aside0.mk A50
   clear A50
   have H' := Aside0.mk H
   clear H
   have p101 : 0 ≤ (a1 : Int) := of_decide_eq_true (by assumption)
   have q101 : a1 < (l0.length : Int) := of_decide_eq_true (by assumption)
   obtain ⟨ad101, A101_1, c101_1, e101, hx101_0, hx101_1, hx101_2, hl101_1, hi101_1⟩ := at_T59 HR0.out a1 p101 q101
   cases e101
   have HR101_1 := Aside0.mk hi101_1
   have HC101_1 := Aside0.mk hl101_1
   clear hi101_1 hl101_1
   replace p101 := eq_true p101
   replace q101 := eq_true q101
   go_enter Try.func72, Try.ntmps72
   go_wp2_with (first | ((with_reducible refine gate_callee (f := 83) rfl ?_); refine goesM_ (some 14) Try.func83 #[.slice A101_1 ((rd_T59 l0 a1).f1).length c101_1] ?_; (with_reducible refine (slices_Clone_int.calls _ _ ((rd_T59 l0 a1).f1) t102 _ ?side1 ?side2 A5.out).mono ?_); (case side1 => repeat (first | exact HR101_1.out | (with_reducible refine Kd.C_alloc ?_ _) | (with_reducible refine Kd.C_drewN ?_ _) | (with_reducible refine Kd.C_drew ?_))); (case side2 => exact HC101_1.out); rintro e w6 ⟨v103, rfl, ho0, hb⟩; refine ⟨_, rfl, ?_⟩; have n0_ := Aside0.mk (Kd.R_lower ho0 (below_size (by repeat (first | exact HB.out | apply below_alloc | apply pw_below_drewN | apply below_drew1)))); have n1_ := Aside0.mk (below_step (by repeat (first | exact HB.out | apply below_alloc | apply pw_below_drewN | apply below_drew1)) hb); clear HB; have HO104 := n0_; have HB := n1_; clear n0_ n1_; (try clear hb); (try clear ho0)))
   go_loopg [5, 6] k (fun kq v5 v6 w' => ∃ (x5_1 : List Int) (x6_1 : Int), v6 = .int .i64 x6_1 ∧ Aside0 (impl_neededFor.l0 kq l0 x5_1 x6_1 = some r) ∧ Aside0 (kq ≤ k) ∧ Aside0 (Kd.R (Kd.int .i64) 3 w' w.heap.size (fun _ => True) v5 x5_1) ∧ Aside0 (Below w.heap.size w w'))
   case atStart => exact ⟨(t102), (0), (by first | rfl | (simp; done) | (simp [*]; done)), H', ⟨Nat.le_refl _⟩, ⟨by (with_reducible repeat (first | apply Kd.R_alloc | apply Kd.R_drewN | apply Kd.R_drew)); exact HO104.out⟩, ⟨by repeat (first | exact HB.out | apply below_alloc | apply pw_below_drewN | apply below_drew1)⟩⟩
   case round =>
    clear H'
    try clear c1
    try clear p1
    try clear q1
    try clear hx1
    try clear p2
    try clear c3
    try clear c3b0
    try clear c4
    try clear c4b0
    try clear hx101_0
    try clear hx101_1
    try clear hx101_2
    try clear p101
    try clear q101
    obtain ⟨x5_1, x6_1, rfl, HA, HK1, HO_5, HB⟩ := hrel
    cases gk with
    | zero => exact absurd HA.out (by simp [impl_neededFor.l0])
    | succ k1 =>
     have H := HA.out
     clear HA
     simp only [impl_neededFor.l0] at H
     by_cases c7 : x6_1 < (x5_1.length : Int)
     ·rw [if_pos c7] at H
      have c7b0 : decide (x6_1 < (x5_1.length : Int)) = true := decide_eq_true c7
      clear c7
      by_cases c8 : 0 ≤ x6_1
      ·rw [if_pos c8] at H
       have c8b0 : decide (0 ≤ x6_1) = true := decide_eq_true c8
       clear c8
       by_cases c9 : 0 ≤ (rd x5_1 x6_1)
       ·rw [if_pos c9] at H
        have c9b0 : decide (0 ≤ (rd x5_1 x6_1)) = true := decide_eq_true c9
        clear c9
        by_cases c10 : (rd x5_1 x6_1) < (l0.length : Int)
        ·rw [if_pos c10] at H
         have c10b0 : decide ((rd x5_1 x6_1) < (l0.length : Int)) = true := decide_eq_true c10
         clear c10
         have H' := Aside0.mk H
         clear H
         obtain ⟨Ao11, co11, eo11⟩ := Kd.R_slice HO_5.out
         subst eo11
         have p106 : 0 ≤ (x6_1 : Int) := of_decide_eq_true (by assumption)
         have q106 : x6_1 < (x5_1.length : Int) := of_decide_eq_true (by assumption)
         obtain ⟨ad106, e106, hx106_0⟩ := Kd.at_int (Kd.R_reads' HO_5.out).2.2 x6_1 p106 q106
         cases e106
         replace p106 := eq_true p106
         replace q106 := eq_true q106
         have p107 : 0 ≤ ((rd x5_1 x6_1) : Int) := of_decide_eq_true (by assumption)
         have q107 : (rd x5_1 x6_1) < (l0.length : Int) := of_decide_eq_true (by assumption)
         obtain ⟨ad107, A107_1, c107_1, e107, hx107_0, hx107_1, hx107_2, hl107_1, hi107_1⟩ := at_T59 HR0.out (rd x5_1 x6_1) p107 q107
         obtain rfl : ad101 = ad107 := (by injection e107)
         replace hx107_0 := (HB.out.cell (World.block_lt_of_cell? w _ hx107_0)).trans hx107_0
         replace hx107_1 := (HB.out.cell (World.block_lt_of_cell? w _ hx107_1)).trans hx107_1
         replace hx107_2 := (HB.out.cell (World.block_lt_of_cell? w _ hx107_2)).trans hx107_2
         have HR107_1 := Aside0.mk hi107_1
         have HC107_1 := Aside0.mk hl107_1
         clear hi107_1 hl107_1
         replace p107 := eq_true p107
         replace q107 := eq_true q107
         go_wp2
         go_loopg [5, 30] k1 (fun kq v5 v30 w' => ∃ (x5_2 : List Int) (x30_2 : Int), v30 = .int .i64 x30_2 ∧ Aside0 (impl_neededFor.l1 kq l0 x5_2 x6_1 ((rd_T59 l0 (rd x5_1 x6_1)).f1) (((rd_T59 l0 (rd x5_1 x6_1)).f1).length : Int) x30_2 = some r) ∧ Aside0 (kq ≤ k1) ∧ Aside0 (Kd.R (Kd.int .i64) 3 w' w.heap.size (fun _ => True) v5 x5_2) ∧ Aside0 (Below w.heap.size w w'))
         case atStart => exact ⟨(x5_1), (0), (by first | rfl | (simp; done) | (simp [*]; done)), H', ⟨Nat.le_refl _⟩, ⟨by (with_reducible repeat (first | apply Kd.R_alloc | apply Kd.R_drewN | apply Kd.R_drew)); exact HO_5.out⟩, ⟨by repeat (first | exact HB.out | apply below_alloc | apply pw_below_drewN | apply below_drew1)⟩⟩
         case round =>
          clear H'
          try clear c1
          try clear p1
          try clear q1
          try clear hx1
          try clear p2
          try clear c3
          try clear c3b0
          try clear c4
          try clear c4b0
          try clear c7
          try clear c7b0
          try clear c8
          try clear c8b0
          try clear c9
          try clear c9b0
          try clear c10
          try clear c10b0
          try clear p10
          try clear q10
          try clear hx10
          try clear hx101_0
          try clear hx101_1
          try clear hx101_2
          try clear hx106_0
          try clear hx107_0
          try clear hx107_1
          try clear hx107_2
          try clear p1
          try clear p101
          try clear p106
          try clear p107
          try clear p2
          try clear q1
          try clear q101
          try clear q106
          try clear q107
          obtain ⟨x5_2, x30_2, rfl, HA, HK2, HO_5, HB⟩ := hrel
          cases gk with
          | zero => exact absurd HA.out (by simp [impl_neededFor.l1])
          | succ k2 =>
           have H := HA.out
           clear HA
           simp only [impl_neededFor.l1] at H
           by_cases c12 : x30_2 < (((rd_T59 l0 (rd x5_1 x6_1)).f1).length : Int)
           ·rw [if_pos c12] at H
            have c12b0 : decide (x30_2 < (((rd_T59 l0 (rd x5_1 x6_1)).f1).length : Int)) = true := decide_eq_true c12
            clear c12
            by_cases c13 : 0 ≤ x30_2
            ·rw [if_pos c13] at H
             have c13b0 : decide (0 ≤ x30_2) = true := decide_eq_true c13
             clear c13
             by_cases c14 : x30_2 < (((rd_T59 l0 (rd x5_1 x6_1)).f1).length : Int)
             ·rw [if_pos c14] at H
              have c14b0 : decide (x30_2 < (((rd_T59 l0 (rd x5_1 x6_1)).f1).length : Int)) = true := decide_eq_true c14
              clear c14
              replace H := Option.bind_eq_some_iff.mp H
              obtain ⟨t109, A150, H⟩ := H
              try dsimp only at H
              have A15 := Aside0.mk A150
              clear A150
              by_cases c16 : t109 = true
              ·subst c16
               rw [if_pos rfl] at H
               have H' := Aside0.mk H
               clear H
               have p108 : 0 ≤ (x30_2 : Int) := of_decide_eq_true (by assumption)
               have q108 : x30_2 < (((rd_T59 l0 (rd x5_1 x6_1)).f1).length : Int) := of_decide_eq_true (by assumption)
               obtain ⟨ad108, e108, hx108_0⟩ := Kd.at_int HR107_1.out x30_2 p108 q108
               cases e108
               replace hx108_0 := (HB.out.cell (World.block_lt_of_cell? w _ hx108_0)).trans hx108_0
               replace p108 := eq_true p108
               replace q108 := eq_true q108
               obtain ⟨Ao17, co17, eo17⟩ := Kd.R_slice HO_5.out
               subst eo17
               go_wp2_with (first | ((with_reducible refine gate_callee (f := 60) rfl ?_); refine goesM_ (some 36) Try.func60 #[.slice Ao17 x5_2.length co17, .int .i64 (rd ((rd_T59 l0 (rd x5_1 x6_1)).f1) x30_2)] ?_; (with_reducible refine (slices_Contains_int.calls k2 _ _ x5_2 (rd ((rd_T59 l0 (rd x5_1 x6_1)).f1) x30_2) true _ ?side1 ?side2 A15.out).mono ?_); (case side1 => repeat (first | exact (Kd.R_reads' HO_5.out).2.2 | (with_reducible refine Kd.C_alloc ?_ _) | (with_reducible refine Kd.C_drewN ?_ _) | (with_reducible refine Kd.C_drew ?_))); (case side2 => exact (Kd.R_reads' HO_5.out).2.1); rintro e w' ⟨rfl, ⟨nd, rfl⟩⟩; refine ⟨_, rfl, ?_⟩))
               go_roundg k2
               case measure => have := HK1.out; have := HK2.out; omega
               case rel => exact ⟨(x5_2), (wrap64 (x30_2 + 1)), (by first | rfl | (simp; done) | (simp [*]; done)), H', ⟨by have := HK1.out; have := HK2.out; omega⟩, ⟨by (with_reducible repeat (first | apply Kd.R_alloc | apply Kd.R_drewN | apply Kd.R_drew)); exact HO_5.out⟩, ⟨by repeat (first | exact HB.out | apply below_alloc | apply pw_below_drewN | apply below_drew1)⟩⟩
              ·replace c16 := Bool.eq_false_iff.mpr c16
               subst c16
               rw [if_neg (show ¬ (false = true) by decide)] at H
               by_cases c18 : x5_2.length < 17592186044416
               ·rw [if_pos c18] at H
                have LMc18 := Aside0.mk c18
                clear c18
                obtain ⟨y110, hy110⟩ : ∃ y_ : List Int, y_ = (x5_2 ++ [rd ((rd_T59 l0 (rd x5_1 x6_1)).f1) x30_2]) := ⟨_, rfl⟩
                replace H : (impl_neededFor.l1 k2 l0 y110 x6_1 ((rd_T59 l0 (rd x5_1 x6_1)).f1) (((rd_T59 l0 (rd x5_1 x6_1)).f1).length : Int) (wrap64 (x30_2 + 1))) = some r := by first | (rw [hy110]; with_reducible exact H) | (have H2_ := (Option.bind_some _ _).symm.trans H; rw [hy110]; with_reducible exact H2_) | (have H2_ := (Option.bind_some _ _).symm.trans H; with_reducible exact H2_) | with_reducible exact H | (rw [hy110]; exact H) | exact H
                have Ny110 := Aside0.mk hy110
                clear hy110
                have H' := Aside0.mk H
                clear H
                have p108 : 0 ≤ (x30_2 : Int) := of_decide_eq_true (by assumption)
                have q108 : x30_2 < (((rd_T59 l0 (rd x5_1 x6_1)).f1).length : Int) := of_decide_eq_true (by assumption)
                obtain ⟨ad108, e108, hx108_0⟩ := Kd.at_int HR107_1.out x30_2 p108 q108
                cases e108
                replace hx108_0 := (HB.out.cell (World.block_lt_of_cell? w _ hx108_0)).trans hx108_0
                replace p108 := eq_true p108
                replace q108 := eq_true q108
                obtain ⟨Ao19, co19, eo19⟩ := Kd.R_slice HO_5.out
                subst eo19
                go_wp2_with (first | ((with_reducible refine gate_callee (f := 60) rfl ?_); refine goesM_ (some 36) Try.func60 #[.slice Ao19 x5_2.length co19, .int .i64 (rd ((rd_T59 l0 (rd x5_1 x6_1)).f1) x30_2)] ?_; (with_reducible refine (slices_Contains_int.calls k2 _ _ x5_2 (rd ((rd_T59 l0 (rd x5_1 x6_1)).f1) x30_2) false _ ?side1 ?side2 A15.out).mono ?_); (case side1 => repeat (first | exact (Kd.R_reads' HO_5.out).2.2 | (with_reducible refine Kd.C_alloc ?_ _) | (with_reducible refine Kd.C_drewN ?_ _) | (with_reducible refine Kd.C_drew ?_))); (case side2 => exact (Kd.R_reads' HO_5.out).2.1); rintro e w' ⟨rfl, ⟨nd, rfl⟩⟩; refine ⟨_, rfl, ?_⟩) | ((with_reducible refine gate_builtin (b := .append) (xs := #[.tmp 38, .tmp 40]) rfl ?_); at_builtin; refine Kd.R_append (Kd.int .i64) (w0 := w) w.heap.size rfl (.tmp 38) (.tmp 40) 34 3 (.int .i64 0) 8 rfl Try.underlying34 info3 rfl (by decide) (by omega) (.slice Ao19 x5_2.length co19) x5_2 (rd ((rd_T59 l0 (rd x5_1 x6_1)).f1) x30_2) [.int .i64 (rd ((rd_T59 l0 (rd x5_1 x6_1)).f1) x30_2)] (fun _ => True) (fun _ => False) rfl rfl ?aP (fun _ hk => hk.elim) ?aF ?aO ?aB ?aS ?aL ?_; (case aP => exact rfl); (case aB => exact (by repeat (first | exact HB.out | apply below_alloc | apply pw_below_drewN | apply below_drew1))); (case aF => exact (fun _ _ => trivial)); (case aO => exact (by (with_reducible repeat (first | apply Kd.R_alloc | apply Kd.R_drewN | apply Kd.R_drew)); exact HO_5.out)); (case aS => exact (below_size (by repeat (first | exact HB.out | apply below_alloc | apply pw_below_drewN | apply below_drew1)))); (case aL => have := LMc18.out; omega); intro v111 w20 ho hb hg hat; rw [← Ny110.out] at ho; have n0_ := Aside0.mk (hb); have n1_ := Aside0.mk (ho); clear HB; clear HO_5; have HB := n0_; have HO112 := n1_; clear n0_ n1_; clear ho hb hg hat))
                go_roundg k2
                case measure => have := HK1.out; have := HK2.out; omega
                case rel => exact ⟨(y110), (wrap64 (x30_2 + 1)), (by first | rfl | (simp; done) | (simp [*]; done)), H', ⟨by have := HK1.out; have := HK2.out; omega⟩, ⟨by (with_reducible repeat (first | apply Kd.R_alloc | apply Kd.R_drewN | apply Kd.R_drew)); exact HO112.out⟩, ⟨by repeat (first | exact HB.out | apply below_alloc | apply pw_below_drewN | apply below_drew1)⟩⟩
               ·rw [if_neg c18] at H
                exact absurd H (by simp)
             ·rw [if_neg c14] at H
              exact absurd H (by simp)
            ·rw [if_neg c13] at H
             exact absurd H (by simp)
           ·rw [if_neg c12] at H
            have c12b0 : decide (x30_2 < (((rd_T59 l0 (rd x5_1 x6_1)).f1).length : Int)) = false := decide_eq_false c12
            clear c12
            have H' := Aside0.mk H
            clear H
            go_wp2
            go_roundg k2
            case measure => have := HK1.out; have := HK2.out; omega
            case rel => exact ⟨(x5_2), (wrap64 (x6_1 + 1)), (by first | rfl | (simp; done) | (simp [*]; done)), H', ⟨by have := HK1.out; have := HK2.out; omega⟩, ⟨by (with_reducible repeat (first | apply Kd.R_alloc | apply Kd.R_drewN | apply Kd.R_drew)); exact HO_5.out⟩, ⟨by repeat (first | exact HB.out | apply below_alloc | apply pw_below_drewN | apply below_drew1)⟩⟩
        ·rw [if_neg c10] at H
         exact absurd H (by simp)
       ·rw [if_neg c9] at H
        exact absurd H (by simp)
      ·rw [if_neg c8] at H
       exact absurd H (by simp)
     ·rw [if_neg c7] at H
      have c7b0 : decide (x6_1 < (x5_1.length : Int)) = false := decide_eq_false c7
      clear c7
      replace H := Option.bind_eq_some_iff.mp H
      obtain ⟨t105, A210, H⟩ := H
      try dsimp only at H
      have A21 := Aside0.mk A210
      clear A210
      obtain rfl := Option.some.inj H
      obtain ⟨Ao22, co22, eo22⟩ := Kd.R_slice HO_5.out
      subst eo22
      go_wp2_with (first | ((with_reducible refine gate_callee (f := 61) rfl ?_); refine goesM_ (some 44) Try.func61 #[.slice Ao22 x5_1.length co22] ?_; (with_reducible refine (slices_Sort_int.calls (fun k_ => some k_ = (.slice Ao22 x5_1.length co22 : Value).ownBlock) (.slice Ao22 x5_1.length co22) x5_1 t105 w _ ?side1 ?side2 A21.out).mono ?_); (case side1 => repeat (first | exact HB.out | apply below_alloc | apply pw_below_drewN | apply below_drew1)); (case side2 => exact Kd.R_tight rfl HO_5.out); rintro e w23 ⟨rfl, hy0, hb, hkp⟩; refine ⟨_, rfl, ?_⟩; have n0_ := Aside0.mk (Kd.R_reok rfl hy0 (fun k_ e_ => HO_5.out.1 k_ e_)); have n1_ := Aside0.mk (hb); clear HO_5; clear HB; have HO_5 := n0_; have HB := n1_; clear n0_ n1_; (try clear hb); (try clear hkp); (try clear hy0)))
      go_ret
      exact ⟨_, by first | rfl | (simp [*, errW_none, errW_some] <;> rfl), by (with_reducible repeat (first | apply Kd.R_alloc | apply Kd.R_drewN | apply Kd.R_drew)); exact HO_5.out, by repeat (first | exact HB.out | apply below_alloc | apply pw_below_drewN | apply below_drew1)⟩
  ·rw [if_neg c4] at H
   exact absurd H (by simp)
 ·rw [if_neg c3] at H
  exact absurd H (by simp)

/-! ### impl_WordsForShare: function 33 -/
def impl_WordsForShare.p (k : Nat) (t : List Int) (x : Int) : Option Bool := (slices_Contains_int.f k t x).bind fun a => some (!a)
theorem impl_WordsForShare.p_mono (k : Nat) (t : List Int) (x : Int) : LeO (impl_WordsForShare.p k t x) (impl_WordsForShare.p (k + 1) t x) := LeO.bind (slices_Contains_int.mono _ _ _) (fun _ => LeO.refl _)
def impl_WordsForShare.c (k : Nat) (l0 : List S59) (i n : Int) : Option Bool := if i = n then some true else ((impl_neededFor.f k l0 n).bind fun m => slices_Contains_int.f k m i)
theorem impl_WordsForShare.c_mono (k : Nat) (l0 : List S59) (i n : Int) : LeO (impl_WordsForShare.c k l0 i n) (impl_WordsForShare.c (k + 1) l0 i n) := LeO.ite (LeO.refl _) (LeO.bind (impl_neededFor.mono _ _ _) (fun _ => slices_Contains_int.mono _ _ _))
def impl_WordsForShare.l1 : Nat → List S59 → List Int → Int → List Int → Int → Option (List Int)
 | 0, _, _, _, _, _ => none
 | k + 1, l0, ord, n, t, j => if j < (ord.length : Int) then (if 0 ≤ j then ((impl_WordsForShare.c k l0 (rd ord j) n).bind fun b => if b = true then ((slices_Contains_int.f k t (rd ord j)).bind fun d => if d = true then impl_WordsForShare.l1 k l0 ord n t (wrap64 (j + 1)) else if t.length < 17592186044416 then impl_WordsForShare.l1 k l0 ord n (t ++ [rd ord j]) (wrap64 (j + 1)) else none) else impl_WordsForShare.l1 k l0 ord n t (wrap64 (j + 1))) else none) else some t
def impl_WordsForShare.l0 : Nat → List S59 → Int → List Int → List Int → Option (List Int × Bool)
 | 0, _, _, _, _ => none
 | k + 1, l0, s, ord, t => (impl_usesIn.f k l0 t).bind fun u => (impl_allUses.f k l0).bind fun a => if wrap64 (100 * u) < wrap64 (s * a) then ((impl_mostUsed.f (impl_WordsForShare.p k t) k l0).bind fun n => (impl_WordsForShare.l1 k l0 ord n t 0).bind fun q => impl_WordsForShare.l0 k l0 s ord q) else ((slices_Sort_int.f t).bind fun m => some (m, true))
def impl_WordsForShare.f (k : Nat) (l0 : List S59) (s : Int) : Option (List Int × Bool) := (impl_TeachOrder.f k l0).bind fun o => if o.2 = true then ((impl_within.f s 0 100).bind fun b => if b = true then ((impl_allUses.f k l0).bind fun a => if a = 0 then some ([], false) else impl_WordsForShare.l0 k l0 s o.1 []) else some ([], false)) else some ([], false)
theorem impl_WordsForShare.mono_1 : ∀ k, ∀ y0 y1 y2 y3 y4, LeO (impl_WordsForShare.l1 k y0 y1 y2 y3 y4) (impl_WordsForShare.l1 (k + 1) y0 y1 y2 y3 y4)
 | 0 => fun _ _ _ _ _ r h => by simp [impl_WordsForShare.l1] at h
 | k + 1 => by
  intro y0 y1 y2 y3 y4
  rw [impl_WordsForShare.l1, impl_WordsForShare.l1]
  exact LeO.ite (LeO.ite (LeO.bind (impl_WordsForShare.c_mono k _ _ _) (fun _ => LeO.ite (LeO.bind (slices_Contains_int.mono _ _ _) (fun _ => LeO.ite (impl_WordsForShare.mono_1 k _ _ _ _ _) (LeO.ite (impl_WordsForShare.mono_1 k _ _ _ _ _) (LeO.refl _)))) (impl_WordsForShare.mono_1 k _ _ _ _ _))) (LeO.refl _)) (LeO.refl _)
theorem impl_WordsForShare.mono_l : ∀ k, ∀ y0 y1 y2 y3, LeO (impl_WordsForShare.l0 k y0 y1 y2 y3) (impl_WordsForShare.l0 (k + 1) y0 y1 y2 y3)
 | 0 => fun _ _ _ _ r h => by simp [impl_WordsForShare.l0] at h
 | k + 1 => by
  intro y0 y1 y2 y3
  rw [impl_WordsForShare.l0, impl_WordsForShare.l0]
  exact LeO.bind (impl_usesIn.mono _ _ _) (fun _ => LeO.bind (impl_allUses.mono _ _) (fun _ => LeO.ite (LeO.bind (impl_mostUsed.mono _ _ (fun x => impl_WordsForShare.p_mono k y3 x) _ _) (fun _ => LeO.bind (impl_WordsForShare.mono_1 k _ _ _ _ _) (fun _ => impl_WordsForShare.mono_l k _ _ _ _))) (LeO.refl _)))
theorem impl_WordsForShare.mono : ∀ a0 a1 k, LeO (impl_WordsForShare.f k a0 a1) (impl_WordsForShare.f (k + 1) a0 a1) := by
 intro a0 a1 k
 unfold impl_WordsForShare.f
 exact LeO.bind (impl_TeachOrder.mono _ _) (fun _ => LeO.ite (LeO.bind (LeO.refl _) (fun _ => LeO.ite (LeO.bind (impl_allUses.mono _ _) (fun _ => LeO.ite (LeO.refl _) (impl_WordsForShare.mono_l k _ _ _ _))) (LeO.refl _))) (LeO.refl _))
set_option maxHeartbeats 1000000
open Go.RowKit Go.Lib Go.Proofs.YthcedgbjpkgoeaaW.PrintWords Go.Proofs.YthcedgbjpkgoeaaW.PrintLast Go.Proofs.YthcedgbjpkgoeaaW.PrintMore Go.Proofs.YthcedgbjpkgoeaaW Go.Proofs.Ythcedgbjpkgoeaa.Q
set_option maxHeartbeats 4000000 in
set_option maxRecDepth 100000 in
theorem impl_WordsForShare.lit (k : Nat) (At : Option Addr) (ct : Nat) (t : List Int) (x : Int) (b : Bool) (gt : Nat) (W : World) (hrt : Kd.C (Kd.int .i64) W At t.length t) (hct : t.length ≤ ct) (hbt : W.cell? ⟨gt, 0, none⟩ = some (.slice At t.length ct)) (h : impl_WordsForShare.p k t x = some b) :
  Calls Try.prog 71 #[.int .i64 x, .pointer (some ⟨gt, 0, none⟩)] W fun e w' => e = .returned (.bool b) ∧ Below W.heap.size W w' := by
 have HRT := Aside0.mk hrt
 have HCT := Aside0.mk hct
 clear hrt hct
 unfold impl_WordsForShare.p at h
 obtain ⟨a, A1, h⟩ := Option.bind_eq_some_iff.mp h
 replace A1 := Aside0.mk A1
 obtain rfl := Option.some.inj h
 clear h
 go_enter Try.func71, Try.ntmps71
 go_wp2_with (go_at_call 60; refine (slices_Contains_int.calls k _ _ t x a _ HRT.out HCT.out A1.out).mono ?_; rintro e w' ⟨rfl, nd_, rfl⟩)
 go_ret
 exact ⟨rfl, pw_below_drewN (Below.refl _ _) _⟩
set_option maxHeartbeats 3000000 in
set_option maxRecDepth 100000 in
theorem impl_WordsForShare.calls (k : Nat) (A0 : Option Addr) (c0 : Nat) (l0 : List S59) (a1 : Int) (r1 : List Int) (r2 : Bool) (w : World) (hr0 : Kd.C k59 w A0 l0.length l0) (hc0 : l0.length ≤ c0) (h : impl_WordsForShare.f k l0 a1 = some (r1, r2)) :
  Calls Try.prog 33 #[.slice A0 l0.length c0, .int .i64 a1] w fun e w' => ∃ v0_ : Value, e = .returned (.tuple #[v0_, .bool r2]) ∧ Kd.R (Kd.int .i64) 3 w' w.heap.size (fun _ => True) v0_ r1 ∧ Below w.heap.size w w' := by
 have eg : ∀ args w, (callFunc 71 args).run Try.prog w = .ok (.enter 71 args) w := enters_of Try.func71 (by kernel_rfl) rfl
 have HR0 := Aside0.mk hr0
 have HC0 := Aside0.mk hc0
 clear hr0 hc0
 have HB := Aside0.mk (Below.refl w.heap.size w)
 unfold impl_WordsForShare.f at h
 obtain ⟨⟨ord, ok⟩, A1, h⟩ := Option.bind_eq_some_iff.mp h
 replace A1 := Aside0.mk A1
 dsimp only at h
 cases ok with
 | false =>
  rw [if_neg (by decide)] at h
  simp only [Option.some.injEq, Prod.mk.injEq] at h
  obtain ⟨rfl, rfl⟩ := h
  go_enter Try.func33, Try.ntmps33
  go_wp2_with (first | (go_at_call 70; refine (impl_TeachOrder.calls k _ _ l0 ord false w HR0.out HC0.out A1.out).mono ?_; rintro e w1 ⟨vo, rfl, hro, hb⟩; obtain ⟨Ao, co, rfl⟩ := Kd.R_slice hro; have HRO := Aside0.mk hro; clear HB; have HB := Aside0.mk hb; clear hb hro))
  go_ret2
  exact ⟨.slice none 0 0, by first | rfl | (simp; done), Kd.R_nil _ _ _ _ _, HB.out⟩
 | true =>
  rw [if_pos rfl] at h
  obtain ⟨b, A2, h⟩ := Option.bind_eq_some_iff.mp h
  replace A2 := Aside0.mk A2
  cases b with
  | false =>
   rw [if_neg (by decide)] at h
   simp only [Option.some.injEq, Prod.mk.injEq] at h
   obtain ⟨rfl, rfl⟩ := h
   go_enter Try.func33, Try.ntmps33
   go_wp2_with (first | (go_at_call 70; refine (impl_TeachOrder.calls k _ _ l0 ord true w HR0.out HC0.out A1.out).mono ?_; rintro e w1 ⟨vo, rfl, hro, hb⟩; obtain ⟨Ao, co, rfl⟩ := Kd.R_slice hro; have HRO := Aside0.mk hro; clear HB; have HB := Aside0.mk hb; clear hb hro) | (go_at_call 57; refine (impl_within.calls a1 0 100 false _ A2.out).mono ?_; rintro e w' ⟨rfl, nd_, rfl⟩; have n0_ := Aside0.mk (pw_below_drewN HB.out nd_); have n1_ := Aside0.mk (Kd.R_drewN HRO.out nd_); clear HB HRO; have HB := n0_; have HRO := n1_; clear n0_ n1_))
   go_ret2
   exact ⟨.slice none 0 0, by first | rfl | (simp; done), Kd.R_nil _ _ _ _ _, HB.out⟩
  | true =>
   rw [if_pos rfl] at h
   obtain ⟨a, A3, h⟩ := Option.bind_eq_some_iff.mp h
   replace A3 := Aside0.mk A3
   by_cases ca : a = 0
   ·rw [if_pos ca] at h
    have cab : (a == 0) = true := beq_iff_eq.mpr ca
    simp only [Option.some.injEq, Prod.mk.injEq] at h
    obtain ⟨rfl, rfl⟩ := h
    clear ca
    go_enter Try.func33, Try.ntmps33
    go_wp2_with (first | (go_at_call 70; refine (impl_TeachOrder.calls k _ _ l0 ord true w HR0.out HC0.out A1.out).mono ?_; rintro e w1 ⟨vo, rfl, hro, hb⟩; obtain ⟨Ao, co, rfl⟩ := Kd.R_slice hro; have HRO := Aside0.mk hro; clear HB; have HB := Aside0.mk hb; clear hb hro) | (go_at_call 57; refine (impl_within.calls a1 0 100 true _ A2.out).mono ?_; rintro e w' ⟨rfl, nd_, rfl⟩; have n0_ := Aside0.mk (pw_below_drewN HB.out nd_); have n1_ := Aside0.mk (Kd.R_drewN HRO.out nd_); clear HB HRO; have HB := n0_; have HRO := n1_; clear n0_ n1_) | (go_at_call 65; refine (impl_allUses.calls k _ _ l0 a _ (Kd.C_below HR0.out HB.out) HC0.out A3.out).mono ?_; rintro e w3 ⟨rfl, hb⟩; have n0_ := Aside0.mk (below_step HB.out hb); have n1_ := Aside0.mk (Kd.R_below HRO.out hb); clear HB HRO; have HB := n0_; have HRO := n1_; clear n0_ n1_ hb))
    go_ret2
    exact ⟨.slice none 0 0, by first | rfl | (simp; done), Kd.R_nil _ _ _ _ _, HB.out⟩
   ·rw [if_neg ca] at h
    have cab : (a == 0) = false := beq_eq_false_iff_ne.mpr ca
    have H' := Aside0.mk h
    clear h ca
    go_enter Try.func33, Try.ntmps33
    go_wp2_with (first | (go_at_call 70; refine (impl_TeachOrder.calls k _ _ l0 ord true w HR0.out HC0.out A1.out).mono ?_; rintro e w1 ⟨vo, rfl, hro, hb⟩; obtain ⟨Ao, co, rfl⟩ := Kd.R_slice hro; have HRO := Aside0.mk hro; clear HB; have HB := Aside0.mk hb; clear hb hro) | (go_at_call 57; refine (impl_within.calls a1 0 100 true _ A2.out).mono ?_; rintro e w' ⟨rfl, nd_, rfl⟩; have n0_ := Aside0.mk (pw_below_drewN HB.out nd_); have n1_ := Aside0.mk (Kd.R_drewN HRO.out nd_); clear HB HRO; have HB := n0_; have HRO := n1_; clear n0_ n1_) | (go_at_call 65; refine (impl_allUses.calls k _ _ l0 a _ (Kd.C_below HR0.out HB.out) HC0.out A3.out).mono ?_; rintro e w3 ⟨rfl, hb⟩; have n0_ := Aside0.mk (below_step HB.out hb); have n1_ := Aside0.mk (Kd.R_below HRO.out hb); clear HB HRO; have HB := n0_; have HRO := n1_; clear n0_ n1_ hb) | ((with_reducible refine gate_dst (N := 8) rfl ?_); refine box_event ?hg (N := 8) ?hd (cs := #[.slice none 0 0]) (t := 34) ?hr ?_; (case hd => rfl); (case hg => rfl); (case hr => first | (go_simp; done) | (go_simp; rfl)); intro g8 hg w8 hbox hb; obtain ⟨W1, hg1_, hb1_, hro_, hbw_⟩ : ∃ W1 : World, g8 = W1.heap.size ∧ Below W1.heap.size W1 w8 ∧ Kd.R (Kd.int .i64) 3 W1 w.heap.size (fun _ => True) (.slice Ao ord.length co) ord ∧ Below w.heap.size w W1 := ⟨_, hg, hb, HRO.out, HB.out⟩; have BK8 := Aside0.mk hbox; clear hg hb hbox HRO HB; have HG8 := Aside0.mk hg1_; have HB1 := Aside0.mk hb1_; have HRO := Aside0.mk hro_; have HB := Aside0.mk hbw_; clear hg1_ hb1_ hro_ hbw_))
    try simp only [Act.put, List.setIfInBounds_toArray, List.set_cons_zero, List.set_cons_succ]
    go_loopg [] k (fun kq w' => ∃ (t : List Int) (y8 : Value), Aside0 (impl_WordsForShare.l0 kq l0 a1 ord t = some (r1, r2)) ∧ Aside0 (kq ≤ k) ∧ Aside0 (w'.heap[g8]? = some (.cells #[y8] 34 (0, 0))) ∧ Aside0 (Kd.R (Kd.int .i64) 3 w' W1.heap.size (fun k_ => k_ ≠ g8) y8 t) ∧ Aside0 (Below W1.heap.size W1 w'))
    case atStart => exact ⟨[], .slice none 0 0, H', ⟨Nat.le_refl _⟩, BK8, ⟨Kd.R_nil _ _ _ _ _⟩, HB1⟩
    case round =>
     clear H' BK8 HB1
     obtain ⟨t, y8, HA, HK1, BK8, HRT, HB1⟩ := hrel
     obtain ⟨At, ct, rfl⟩ := Kd.R_slice HRT.out
     have hx8 := (blk_cell BK8.out 0).trans (show (#[Value.slice At t.length ct] : Array Value)[0]? = some (.slice At t.length ct) from rfl)
     cases gk with
     | zero => exact absurd HA.out (by simp [impl_WordsForShare.l0])
     | succ k1 =>
      have HO := HA.out
      clear HA
      rw [impl_WordsForShare.l0] at HO
      obtain ⟨u, A5, HO⟩ := Option.bind_eq_some_iff.mp HO
      obtain ⟨a, A6, HO⟩ := Option.bind_eq_some_iff.mp HO
      replace A5 := Aside0.mk A5
      replace A6 := Aside0.mk A6
      obtain ⟨m1, hm1⟩ : ∃ m_ : Int, wrap64 (100 * u) = m_ := ⟨_, rfl⟩
      obtain ⟨m2, hm2⟩ : ∃ m_ : Int, wrap64 (a1 * a) = m_ := ⟨_, rfl⟩
      have hm1w : IntKind.i64.wrap (100 * u) = m1 := (i64_w _).trans hm1
      have hm2w : IntKind.i64.wrap (a1 * a) = m2 := (i64_w _).trans hm2
      rw [hm1, hm2] at HO
      by_cases c1 : m1 < m2
      ·rw [if_pos c1] at HO
       have c1b0 : decide (m1 < m2) = true := decide_eq_true c1
       clear c1
       obtain ⟨n, A7, HO⟩ := Option.bind_eq_some_iff.mp HO
       obtain ⟨q, A12, HO⟩ := Option.bind_eq_some_iff.mp HO
       replace A7 := Aside0.mk A7
       replace A12 := Aside0.mk A12
       have HO' := Aside0.mk HO
       clear HO
       go_wp2_with (first | (go_at_call 66; refine (impl_usesIn.calls k1 _ _ l0 _ _ t u _ (Kd.C_below HR0.out (below_step HB.out HB1.out)) HC0.out (Kd.R_reads' HRT.out).2.2 (Kd.R_reads' HRT.out).2.1 A5.out).mono ?_; rintro e w' ⟨rfl, nd_, rfl⟩; have n0_ := Aside0.mk (blk_drewN BK8.out nd_); have n1_ := Aside0.mk (Kd.R_drewN HRT.out nd_); have n2_ := Aside0.mk (pw_below_drewN HB1.out nd_); clear BK8 HRT HB1 hx8; have BK8 := n0_; have HRT := n1_; have HB1 := n2_; clear n0_ n1_ n2_; generalize World.drewN _ nd_ = w20 at BK8 HRT HB1 ⊢; have hx8 := (blk_cell BK8.out 0).trans (show (#[Value.slice At t.length ct] : Array Value)[0]? = some (.slice At t.length ct) from rfl)) | (go_at_call 65; refine (impl_allUses.calls k1 _ _ l0 a _ (Kd.C_below HR0.out (below_step HB.out HB1.out)) HC0.out A6.out).mono ?_; rintro e w3 ⟨rfl, hb⟩; have n0_ := Aside0.mk (blk_below BK8.out hb); have n1_ := Aside0.mk (Kd.R_below HRT.out hb); have n2_ := Aside0.mk (below_step HB1.out hb); clear BK8 HRT HB1 hx8; have BK8 := n0_; have HRT := n1_; have HB1 := n2_; clear n0_ n1_ n2_ hb; have hx8 := (blk_cell BK8.out 0).trans (show (#[Value.slice At t.length ct] : Array Value)[0]? = some (.slice At t.length ct) from rfl)) | (go_at_call 58; refine (impl_mostUsed.calls (impl_WordsForShare.p k1 t) 71 #[.pointer (some ⟨g8, 0, none⟩)] eg k1 _ _ l0 n _ ?hp_ (Kd.C_below HR0.out (below_step HB.out HB1.out)) HC0.out A7.out).mono ?_; (case hp_ => intro W x b hW px qx hpx; exact impl_WordsForShare.lit k1 At ct t x b g8 W (Kd.C_below (Kd.R_reads' HRT.out).2.2 hW) (Kd.R_reads' HRT.out).2.1 ((hW.cell (World.block_lt_of_cell? _ _ hx8)).trans hx8) hpx); rintro e w9 ⟨rfl, hb⟩; have n0_ := Aside0.mk (blk_below BK8.out hb); have n1_ := Aside0.mk (Kd.R_below HRT.out hb); have n2_ := Aside0.mk (below_step HB1.out hb); clear BK8 HRT HB1 hx8; have BK8 := n0_; have HRT := n1_; have HB1 := n2_; clear n0_ n1_ n2_ hb; have hx8 := (blk_cell BK8.out 0).trans (show (#[Value.slice At t.length ct] : Array Value)[0]? = some (.slice At t.length ct) from rfl)))
       go_loopg [43] k1 (fun kq v43 w' => ∃ (j : Int) (t : List Int) (y8 : Value), v43 = .int .i64 j ∧ Aside0 (impl_WordsForShare.l1 kq l0 ord n t j = some q) ∧ Aside0 (kq ≤ k1) ∧ Aside0 (w'.heap[g8]? = some (.cells #[y8] 34 (0, 0))) ∧ Aside0 (Kd.R (Kd.int .i64) 3 w' W1.heap.size (fun k_ => k_ ≠ g8) y8 t) ∧ Aside0 (Below W1.heap.size W1 w'))
       case atStart => exact ⟨0, t, _, (by first | rfl | (simp; done)), A12, ⟨Nat.le_refl _⟩, BK8, HRT, HB1⟩
       case round =>
        clear A12 BK8 HRT HB1 hx8
        obtain ⟨j, t, y8, rfl, HA2, HK2, BK8, HRT, HB1⟩ := hrel
        obtain ⟨At, ct, rfl⟩ := Kd.R_slice HRT.out
        have hx8 := (blk_cell BK8.out 0).trans (show (#[Value.slice At t.length ct] : Array Value)[0]? = some (.slice At t.length ct) from rfl)
        cases gk with
        | zero => exact absurd HA2.out (by simp [impl_WordsForShare.l1])
        | succ k2 =>
         have H := HA2.out
         clear HA2
         rw [impl_WordsForShare.l1] at H
         by_cases c2 : j < (ord.length : Int)
         ·rw [if_pos c2] at H
          by_cases c8 : 0 ≤ j
          case neg => rw [if_neg c8] at H; cases H
          rw [if_pos c8] at H
          have d2 : decide (j < (ord.length : Int)) = true := decide_eq_true c2
          have Q2 := eq_true c2
          have P2 := eq_true c8
          obtain ⟨ad6, e6, hx6⟩ := Kd.at_int (Kd.C_below (Kd.R_reads' HRO.out).2.2 HB1.out) j c8 c2
          cases e6
          clear c2 c8
          obtain ⟨b, A4, H⟩ := Option.bind_eq_some_iff.mp H
          unfold impl_WordsForShare.c at A4
          by_cases c3 : rd ord j = n
          ·rw [if_pos c3] at A4
           obtain rfl := Option.some.inj A4
           have c3b0 : (rd ord j == n) = true := beq_iff_eq.mpr c3
           rw [if_pos rfl] at H
           clear c3 A4
           obtain ⟨d, A11, H⟩ := Option.bind_eq_some_iff.mp H
           replace A11 := Aside0.mk A11
           cases d with
           | true =>
            rw [if_pos rfl] at H
            have H' := Aside0.mk H
            clear H
            go_wp2_with (first | (go_at_call 60; refine (slices_Contains_int.calls k2 At ct t (rd ord j) true _ (Kd.R_reads' HRT.out).2.2 (Kd.R_reads' HRT.out).2.1 A11.out).mono ?_; rintro e w' ⟨rfl, nd_, rfl⟩; have n0_ := Aside0.mk (blk_drewN BK8.out nd_); have n1_ := Aside0.mk (Kd.R_drewN HRT.out nd_); have n2_ := Aside0.mk (pw_below_drewN HB1.out nd_); clear BK8 HRT HB1 hx8; have BK8 := n0_; have HRT := n1_; have HB1 := n2_; clear n0_ n1_ n2_; generalize World.drewN _ nd_ = w20 at BK8 HRT HB1 ⊢; have hx8 := (blk_cell BK8.out 0).trans (show (#[Value.slice At t.length ct] : Array Value)[0]? = some (.slice At t.length ct) from rfl)))
            go_roundg k2
            case measure => have := HK1.out; have := HK2.out; omega
            case rel => exact ⟨wrap64 (j + 1), t, _, (by first | rfl | (simp; done) | (simp [*]; done)), H', ⟨by have := HK2.out; omega⟩, BK8, HRT, HB1⟩
           | false =>
            rw [if_neg (by decide)] at H
            by_cases c7 : t.length < 17592186044416
            case neg => rw [if_neg c7] at H; cases H
            rw [if_pos c7] at H
            have LM := Aside0.mk c7
            have H' := Aside0.mk H
            clear H c7
            go_wp2_with (first | (go_at_call 60; refine (slices_Contains_int.calls k2 At ct t (rd ord j) false _ (Kd.R_reads' HRT.out).2.2 (Kd.R_reads' HRT.out).2.1 A11.out).mono ?_; rintro e w' ⟨rfl, nd_, rfl⟩; have n0_ := Aside0.mk (blk_drewN BK8.out nd_); have n1_ := Aside0.mk (Kd.R_drewN HRT.out nd_); have n2_ := Aside0.mk (pw_below_drewN HB1.out nd_); clear BK8 HRT HB1 hx8; have BK8 := n0_; have HRT := n1_; have HB1 := n2_; clear n0_ n1_ n2_; generalize World.drewN _ nd_ = w20 at BK8 HRT HB1 ⊢; have hx8 := (blk_cell BK8.out 0).trans (show (#[Value.slice At t.length ct] : Array Value)[0]? = some (.slice At t.length ct) from rfl)) | ((with_reducible refine gate_builtin (b := .append) (xs := #[.tmp 63, .tmp 65]) rfl ?_); at_builtin; refine Kd.R_append (Kd.int .i64) (w0 := W1) W1.heap.size rfl (.tmp 63) (.tmp 65) 34 3 (.int .i64 0) 8 rfl Try.underlying34 info3 rfl (by decide) (by omega) (.slice At t.length ct) t (rd ord j) [.int .i64 (rd ord j)] (fun k_ => k_ ≠ g8) (fun _ => False) rfl rfl ?aP (fun _ hk => hk.elim) ?aF ?aO ?aB ?aS ?aL ?_; (case aP => exact rfl); (case aB => exact HB1.out); (case aF => exact (fun k_ hk => Kd.freshB BK8.out k_ hk)); (case aO => exact HRT.out); (case aS => exact below_size HB1.out); (case aL => have := LM.out; omega); intro v10 w10 ho hb hg hat; obtain ⟨A10', n10, c10, rfl⟩ : ∃ (A_ : Option Addr) (n_ c_ : Nat), v10 = Value.slice A_ n_ c_ := (by obtain ⟨A_, c_, e_⟩ := Kd.R_slice ho; exact ⟨A_, _, c_, e_⟩); have n0_ := Aside0.mk (blk_grown BK8.out hg (Kd.R_away HRT.out (fun _ h_ => h_))); clear BK8 HRT HB1 hx8; have BK8 := n0_; have HRT := Aside0.mk ho; have HB1 := Aside0.mk hb; clear n0_ ho hb hg hat; have hz8 := (blk_cell BK8.out 0).trans (show (#[Value.slice At t.length ct] : Array Value)[0]? = some (.slice At t.length ct) from rfl); have hf8 := blk_frozen BK8.out 0))
            go_roundg k2
            case measure => have := HK1.out; have := HK2.out; omega
            case rel => exact ⟨wrap64 (j + 1), t ++ [rd ord j], _, (by first | rfl | (simp; done) | (simp [*]; done)), H', ⟨by have := HK2.out; omega⟩, ⟨blk_put BK8.out 0 _ rfl⟩, ⟨Kd.R_far HRT.out (fun _ hk => hk) _⟩, ⟨below_set HB1.out (Nat.le_of_eq HG8.out.symm)⟩⟩
          ·rw [if_neg c3] at A4
           have c3b0 : (rd ord j == n) = false := beq_eq_false_iff_ne.mpr c3
           clear c3
           obtain ⟨m, A9, A10⟩ := Option.bind_eq_some_iff.mp A4
           replace A9 := Aside0.mk A9
           replace A10 := Aside0.mk A10
           clear A4
           cases b with
           | true =>
            rw [if_pos rfl] at H
            obtain ⟨d, A11, H⟩ := Option.bind_eq_some_iff.mp H
            replace A11 := Aside0.mk A11
            cases d with
            | true =>
             rw [if_pos rfl] at H
             have H' := Aside0.mk H
             clear H
             go_wp2_with (first | (go_at_call 72; refine (impl_neededFor.calls k2 _ _ l0 n m _ (Kd.C_below HR0.out (below_step HB.out HB1.out)) HC0.out A9.out).mono ?_; rintro e w13 ⟨vm, rfl, hrm, hb⟩; obtain ⟨Am, cm, rfl⟩ := Kd.R_slice hrm; have HRM := Aside0.mk hrm; clear hrm; have n0_ := Aside0.mk (blk_below BK8.out hb); have n1_ := Aside0.mk (Kd.R_below HRT.out hb); have n2_ := Aside0.mk (below_step HB1.out hb); clear BK8 HRT HB1 hx8; have BK8 := n0_; have HRT := n1_; have HB1 := n2_; clear n0_ n1_ n2_ hb; have hx8 := (blk_cell BK8.out 0).trans (show (#[Value.slice At t.length ct] : Array Value)[0]? = some (.slice At t.length ct) from rfl)) | (go_at_call 60; refine (slices_Contains_int.calls k2 Am cm m (rd ord j) true _ (Kd.R_reads' HRM.out).2.2 (Kd.R_reads' HRM.out).2.1 A10.out).mono ?_; rintro e w' ⟨rfl, nd_, rfl⟩; have n0_ := Aside0.mk (blk_drewN BK8.out nd_); have n1_ := Aside0.mk (Kd.R_drewN HRT.out nd_); have n2_ := Aside0.mk (pw_below_drewN HB1.out nd_); clear BK8 HRT HB1 hx8; have BK8 := n0_; have HRT := n1_; have HB1 := n2_; clear n0_ n1_ n2_; generalize World.drewN _ nd_ = w20 at BK8 HRT HB1 ⊢; have hx8 := (blk_cell BK8.out 0).trans (show (#[Value.slice At t.length ct] : Array Value)[0]? = some (.slice At t.length ct) from rfl)) | (go_at_call 60; refine (slices_Contains_int.calls k2 At ct t (rd ord j) true _ (Kd.R_reads' HRT.out).2.2 (Kd.R_reads' HRT.out).2.1 A11.out).mono ?_; rintro e w' ⟨rfl, nd_, rfl⟩; have n0_ := Aside0.mk (blk_drewN BK8.out nd_); have n1_ := Aside0.mk (Kd.R_drewN HRT.out nd_); have n2_ := Aside0.mk (pw_below_drewN HB1.out nd_); clear BK8 HRT HB1 hx8; have BK8 := n0_; have HRT := n1_; have HB1 := n2_; clear n0_ n1_ n2_; generalize World.drewN _ nd_ = w20 at BK8 HRT HB1 ⊢; have hx8 := (blk_cell BK8.out 0).trans (show (#[Value.slice At t.length ct] : Array Value)[0]? = some (.slice At t.length ct) from rfl)))
             go_roundg k2
             case measure => have := HK1.out; have := HK2.out; omega
             case rel => exact ⟨wrap64 (j + 1), t, _, (by first | rfl | (simp; done) | (simp [*]; done)), H', ⟨by have := HK2.out; omega⟩, BK8, HRT, HB1⟩
            | false =>
             rw [if_neg (by decide)] at H
             by_cases c7 : t.length < 17592186044416
             case neg => rw [if_neg c7] at H; cases H
             rw [if_pos c7] at H
             have LM := Aside0.mk c7
             have H' := Aside0.mk H
             clear H c7
             go_wp2_with (first | (go_at_call 72; refine (impl_neededFor.calls k2 _ _ l0 n m _ (Kd.C_below HR0.out (below_step HB.out HB1.out)) HC0.out A9.out).mono ?_; rintro e w13 ⟨vm, rfl, hrm, hb⟩; obtain ⟨Am, cm, rfl⟩ := Kd.R_slice hrm; have HRM := Aside0.mk hrm; clear hrm; have n0_ := Aside0.mk (blk_below BK8.out hb); have n1_ := Aside0.mk (Kd.R_below HRT.out hb); have n2_ := Aside0.mk (below_step HB1.out hb); clear BK8 HRT HB1 hx8; have BK8 := n0_; have HRT := n1_; have HB1 := n2_; clear n0_ n1_ n2_ hb; have hx8 := (blk_cell BK8.out 0).trans (show (#[Value.slice At t.length ct] : Array Value)[0]? = some (.slice At t.length ct) from rfl)) | (go_at_call 60; refine (slices_Contains_int.calls k2 Am cm m (rd ord j) true _ (Kd.R_reads' HRM.out).2.2 (Kd.R_reads' HRM.out).2.1 A10.out).mono ?_; rintro e w' ⟨rfl, nd_, rfl⟩; have n0_ := Aside0.mk (blk_drewN BK8.out nd_); have n1_ := Aside0.mk (Kd.R_drewN HRT.out nd_); have n2_ := Aside0.mk (pw_below_drewN HB1.out nd_); clear BK8 HRT HB1 hx8; have BK8 := n0_; have HRT := n1_; have HB1 := n2_; clear n0_ n1_ n2_; generalize World.drewN _ nd_ = w20 at BK8 HRT HB1 ⊢; have hx8 := (blk_cell BK8.out 0).trans (show (#[Value.slice At t.length ct] : Array Value)[0]? = some (.slice At t.length ct) from rfl)) | (go_at_call 60; refine (slices_Contains_int.calls k2 At ct t (rd ord j) false _ (Kd.R_reads' HRT.out).2.2 (Kd.R_reads' HRT.out).2.1 A11.out).mono ?_; rintro e w' ⟨rfl, nd_, rfl⟩; have n0_ := Aside0.mk (blk_drewN BK8.out nd_); have n1_ := Aside0.mk (Kd.R_drewN HRT.out nd_); have n2_ := Aside0.mk (pw_below_drewN HB1.out nd_); clear BK8 HRT HB1 hx8; have BK8 := n0_; have HRT := n1_; have HB1 := n2_; clear n0_ n1_ n2_; generalize World.drewN _ nd_ = w20 at BK8 HRT HB1 ⊢; have hx8 := (blk_cell BK8.out 0).trans (show (#[Value.slice At t.length ct] : Array Value)[0]? = some (.slice At t.length ct) from rfl)) | ((with_reducible refine gate_builtin (b := .append) (xs := #[.tmp 63, .tmp 65]) rfl ?_); at_builtin; refine Kd.R_append (Kd.int .i64) (w0 := W1) W1.heap.size rfl (.tmp 63) (.tmp 65) 34 3 (.int .i64 0) 8 rfl Try.underlying34 info3 rfl (by decide) (by omega) (.slice At t.length ct) t (rd ord j) [.int .i64 (rd ord j)] (fun k_ => k_ ≠ g8) (fun _ => False) rfl rfl ?aP (fun _ hk => hk.elim) ?aF ?aO ?aB ?aS ?aL ?_; (case aP => exact rfl); (case aB => exact HB1.out); (case aF => exact (fun k_ hk => Kd.freshB BK8.out k_ hk)); (case aO => exact HRT.out); (case aS => exact below_size HB1.out); (case aL => have := LM.out; omega); intro v10 w10 ho hb hg hat; obtain ⟨A10', n10, c10, rfl⟩ : ∃ (A_ : Option Addr) (n_ c_ : Nat), v10 = Value.slice A_ n_ c_ := (by obtain ⟨A_, c_, e_⟩ := Kd.R_slice ho; exact ⟨A_, _, c_, e_⟩); have n0_ := Aside0.mk (blk_grown BK8.out hg (Kd.R_away HRT.out (fun _ h_ => h_))); clear BK8 HRT HB1 hx8; have BK8 := n0_; have HRT := Aside0.mk ho; have HB1 := Aside0.mk hb; clear n0_ ho hb hg hat; have hz8 := (blk_cell BK8.out 0).trans (show (#[Value.slice At t.length ct] : Array Value)[0]? = some (.slice At t.length ct) from rfl); have hf8 := blk_frozen BK8.out 0))
             go_roundg k2
             case measure => have := HK1.out; have := HK2.out; omega
             case rel => exact ⟨wrap64 (j + 1), t ++ [rd ord j], _, (by first | rfl | (simp; done) | (simp [*]; done)), H', ⟨by have := HK2.out; omega⟩, ⟨blk_put BK8.out 0 _ rfl⟩, ⟨Kd.R_far HRT.out (fun _ hk => hk) _⟩, ⟨below_set HB1.out (Nat.le_of_eq HG8.out.symm)⟩⟩
           | false =>
            rw [if_neg (by decide)] at H
            have H' := Aside0.mk H
            clear H
            go_wp2_with (first | (go_at_call 72; refine (impl_neededFor.calls k2 _ _ l0 n m _ (Kd.C_below HR0.out (below_step HB.out HB1.out)) HC0.out A9.out).mono ?_; rintro e w13 ⟨vm, rfl, hrm, hb⟩; obtain ⟨Am, cm, rfl⟩ := Kd.R_slice hrm; have HRM := Aside0.mk hrm; clear hrm; have n0_ := Aside0.mk (blk_below BK8.out hb); have n1_ := Aside0.mk (Kd.R_below HRT.out hb); have n2_ := Aside0.mk (below_step HB1.out hb); clear BK8 HRT HB1 hx8; have BK8 := n0_; have HRT := n1_; have HB1 := n2_; clear n0_ n1_ n2_ hb; have hx8 := (blk_cell BK8.out 0).trans (show (#[Value.slice At t.length ct] : Array Value)[0]? = some (.slice At t.length ct) from rfl)) | (go_at_call 60; refine (slices_Contains_int.calls k2 Am cm m (rd ord j) false _ (Kd.R_reads' HRM.out).2.2 (Kd.R_reads' HRM.out).2.1 A10.out).mono ?_; rintro e w' ⟨rfl, nd_, rfl⟩; have n0_ := Aside0.mk (blk_drewN BK8.out nd_); have n1_ := Aside0.mk (Kd.R_drewN HRT.out nd_); have n2_ := Aside0.mk (pw_below_drewN HB1.out nd_); clear BK8 HRT HB1 hx8; have BK8 := n0_; have HRT := n1_; have HB1 := n2_; clear n0_ n1_ n2_; generalize World.drewN _ nd_ = w20 at BK8 HRT HB1 ⊢; have hx8 := (blk_cell BK8.out 0).trans (show (#[Value.slice At t.length ct] : Array Value)[0]? = some (.slice At t.length ct) from rfl)))
            go_roundg k2
            case measure => have := HK1.out; have := HK2.out; omega
            case rel => exact ⟨wrap64 (j + 1), t, _, (by first | rfl | (simp; done) | (simp [*]; done)), H', ⟨by have := HK2.out; omega⟩, BK8, HRT, HB1⟩
         ·rw [if_neg c2] at H
          have d2 : decide (j < (ord.length : Int)) = false := decide_eq_false c2
          obtain rfl := Option.some.inj H
          clear c2 H
          go_wp2
          go_roundg k1
          case measure => have := HK1.out; omega
          case rel => exact ⟨t, _, HO', ⟨by have := HK1.out; omega⟩, BK8, HRT, HB1⟩
      ·rw [if_neg c1] at HO
       have c1b0 : decide (m1 < m2) = false := decide_eq_false c1
       clear c1
       obtain ⟨m, A8, HO⟩ := Option.bind_eq_some_iff.mp HO
       replace A8 := Aside0.mk A8
       simp only [Option.some.injEq, Prod.mk.injEq] at HO
       obtain ⟨rfl, rfl⟩ := HO
       go_wp2_with (first | (go_at_call 66; refine (impl_usesIn.calls k1 _ _ l0 _ _ t u _ (Kd.C_below HR0.out (below_step HB.out HB1.out)) HC0.out (Kd.R_reads' HRT.out).2.2 (Kd.R_reads' HRT.out).2.1 A5.out).mono ?_; rintro e w' ⟨rfl, nd_, rfl⟩; have n0_ := Aside0.mk (blk_drewN BK8.out nd_); have n1_ := Aside0.mk (Kd.R_drewN HRT.out nd_); have n2_ := Aside0.mk (pw_below_drewN HB1.out nd_); clear BK8 HRT HB1 hx8; have BK8 := n0_; have HRT := n1_; have HB1 := n2_; clear n0_ n1_ n2_; generalize World.drewN _ nd_ = w20 at BK8 HRT HB1 ⊢; have hx8 := (blk_cell BK8.out 0).trans (show (#[Value.slice At t.length ct] : Array Value)[0]? = some (.slice At t.length ct) from rfl)) | (go_at_call 65; refine (impl_allUses.calls k1 _ _ l0 a _ (Kd.C_below HR0.out (below_step HB.out HB1.out)) HC0.out A6.out).mono ?_; rintro e w3 ⟨rfl, hb⟩; have n0_ := Aside0.mk (blk_below BK8.out hb); have n1_ := Aside0.mk (Kd.R_below HRT.out hb); have n2_ := Aside0.mk (below_step HB1.out hb); clear BK8 HRT HB1 hx8; have BK8 := n0_; have HRT := n1_; have HB1 := n2_; clear n0_ n1_ n2_ hb; have hx8 := (blk_cell BK8.out 0).trans (show (#[Value.slice At t.length ct] : Array Value)[0]? = some (.slice At t.length ct) from rfl)) | (go_at_call 61; refine (slices_Sort_int.calls (fun k_ => some k_ = (.slice At t.length ct : Value).ownBlock) (.slice At t.length ct) t m W1 _ HB1.out (Kd.R_tight rfl HRT.out) A8.out).mono ?_; rintro e w11 ⟨rfl, hy0, hb, hkp⟩; have n1_ := Aside0.mk (blk_kept BK8.out hkp (Kd.R_away HRT.out (fun _ h_ => h_))); clear BK8 HRT HB1 hx8; have HRM := Aside0.mk hy0; have BK8 := n1_; have HB1 := Aside0.mk hb; clear n1_ hy0 hb hkp; have hx8 := (blk_cell BK8.out 0).trans (show (#[Value.slice At t.length ct] : Array Value)[0]? = some (.slice At t.length ct) from rfl)))
       go_ret2
       exact ⟨_, by first | rfl | (simp; done), Kd.R_lower (Kd.R_mono HRM.out (fun _ _ => trivial)) (below_size HB.out), below_step HB.out HB1.out⟩


end Go.Proofs.Ythcedgbjpkgoeaa.Q
