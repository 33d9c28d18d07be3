-- Written for the seat Ytgnijnlgbelifaa by a program of this session (wip/tool/gx.py) out of the translation. Lean checks it.
import Derived.Test.YtgnijnlgbelifaaQ0
import Derived.Test.YtgnijnlgbelifaaGCall
import Derived.Test.YtgnijnlgbelifaaQBSpecDrawLessonsOf
import Derived.Test.YtgnijnlgbelifaaQImplAllOfInt
import Derived.Test.YtgnijnlgbelifaaS189
import Derived.Test.YtgnijnlgbelifaaS0Nm231
import Derived.Test.YtgnijnlgbelifaaWKept
import Derived.Shelf.GgClosure.Gives
import Derived.Lib.OwnBridge
import Derived.Test.YtgnijnlgbelifaaWApart
import Derived.Test.YtgnijnlgbelifaaWFoot
import Derived.Test.YtgnijnlgbelifaaWKept
import Derived.Test.YtgnijnlgbelifaaWShare
import Derived.Test.YtgnijnlgbelifaaWN
namespace Go.Proofs.Ytgnijnlgbelifaa.Q
open Go.RowKit Go.Proofs.YtgnijnlgbelifaaW.PrintWords Go.Proofs.YtgnijnlgbelifaaW.PrintLast Go.Proofs.YtgnijnlgbelifaaW.PrintMore Go.Proofs.YtgnijnlgbelifaaW.GCall
attribute [local go_sem] max2_int min2_int max_two min_two max_three min_three max_four min_four   -- for this text's walks alone
set_option linter.unusedVariables false
set_option linter.unusedSimpArgs false

/-! ### impl_hasNeeds_1: function 50 -/
def impl_hasNeeds_1.f (k : Nat) (l0 : List Int) (l1 : List Int) : Option Bool := impl_allOf_int.f (fun x => slices_Contains_int.f k l1 x) l0
theorem impl_hasNeeds_1.mono : ∀ a0 a1 k,LeO (impl_hasNeeds_1.f k a0 a1) (impl_hasNeeds_1.f (k + 1) a0 a1) := fun a0 a1 k => Go.Proofs.YtgnijnlgbelifaaW.GIdx.allO_mono (fun x => slices_Contains_int.mono _ _ _) a0
set_option maxHeartbeats 1000000
open Go.RowKit Go.Lib Go.Proofs.YtgnijnlgbelifaaW.PrintWords Go.Proofs.YtgnijnlgbelifaaW.PrintLast Go.Proofs.YtgnijnlgbelifaaW.PrintMore Go.Proofs.YtgnijnlgbelifaaW Go.Proofs.Ytgnijnlgbelifaa.Q Go.Proofs.YtgnijnlgbelifaaW.GCall
set_option maxHeartbeats 1000000 in
set_option maxRecDepth 100000 in
theorem impl_hasNeeds_1.calls (k : Nat) (A0 : Option Addr) (c0 : Nat) (l0 : List Int) (A1 : Option Addr) (c1 : Nat) (l1 : List Int) (r : Bool) {gb : Nat} (w : World) (hr0 : Kd.C (Kd.int .i64) w A0 l0.length l0) (hc0 : l0.length ≤ c0) (hr1 : Kd.C (Kd.int .i64) w A1 l1.length l1) (hc1 : l1.length ≤ c1) (hbx : w.cell? ⟨gb,0,none⟩ = some (.slice A1 l1.length c1)) (h : impl_hasNeeds_1.f k l0 l1 = some r) :
  Calls Try.prog 49 #[.slice A0 l0.length c0,.func (.func 50) #[] #[.pointer (some ⟨gb,0,none⟩)]] w fun e w' => e = .returned (.bool r) ∧ Below w.heap.size w w' := by
 have eg : ∀ args w,(callFunc 50 args).run Try.prog w = .ok (.enter 50 args) w := enters_of Try.func50 (by kernel_rfl) rfl
 refine impl_allOf_int.calls (fun x => slices_Contains_int.f k l1 x) 50 #[.pointer (some ⟨gb,0,none⟩)] eg A0 c0 l0 r w hr0 ?_ h
 intro W x b hb hx hp
 have hlt : gb < w.heap.size := World.block_lt_of_cell? w _ hbx
 have hc : W.cell? ⟨gb,0,none⟩ = some (.slice A1 l1.length c1) := (hb.cell (p := ⟨gb,0,none⟩) hlt).trans hbx
 have hcon := slices_Contains_int.calls k A1 c1 l1 x b W (Kd.C_below hr1 hb) hc1 hp
 have HC := Aside0.mk hcon
 have HBB := Aside0.mk hb
 clear hcon hb hbx hp hr0 hr1 h
 show Calls Try.prog 50 #[.int .i64 x,.pointer (some ⟨gb,0,none⟩)] W _
 go_enter Try.func50,Try.ntmps50
 go_wp2_with (go_at_call 26;refine (HC.out).mono ?_;rintro e w' ⟨rfl,⟨nd,rfl⟩⟩)
 go_ret
 exact ⟨rfl,by repeat (first|exact Below.refl _ _|apply pw_below_drewN|apply below_alloc)⟩


/-! ### impl_hasNeeds: function 27 -/
def impl_hasNeeds.f (k : Nat) (a0_0 : ByteArray) (l0_1 : List Int) (a0_2 : Int) (l1 : List Int) : Option (Bool) := (impl_hasNeeds_1.f k l0_1 l1).bind fun t103 => (some t103)
theorem impl_hasNeeds.mono : ∀ a0 a1 a2 a3 k,LeO (impl_hasNeeds.f k a0 a1 a2 a3) (impl_hasNeeds.f (k + 1) a0 a1 a2 a3) := by
 intro a0 a1 a2 a3 k
 unfold impl_hasNeeds.f
 with_reducible repeat' first|apply impl_hasNeeds_1.mono|apply LeO.refl|apply LeO.none|refine LeO.ite ?_ ?_|refine LeO.bind ?_ (fun _ => ?_)
set_option maxHeartbeats 3000000 in
set_option maxRecDepth 100000 in
theorem impl_hasNeeds.calls (k : Nat) (a0_0 : ByteArray) (A0_1 : Option Addr) (c0_1 : Nat) (l0_1 : List Int) (a0_2 : Int) (A1 : Option Addr) (c1 : Nat) (l1 : List Int) (r : Bool) (w : World) (hr0_1 : Kd.C (Kd.int .i64) w A0_1 l0_1.length l0_1) (hc0_1 : l0_1.length ≤ c0_1) (hr1 : Kd.C (Kd.int .i64) w A1 l1.length l1) (hc1 : l1.length ≤ c1) (h : impl_hasNeeds.f k a0_0 l0_1 a0_2 l1 = some r) :
  Calls Try.prog 27 #[.agg #[.string a0_0,.slice A0_1 l0_1.length c0_1,.int .i64 a0_2],.slice A1 l1.length c1] w fun e w' => e = .returned (.bool r) ∧ Below w.heap.size w w' := by
 have hu43 := Try.underlying43
 have HR0_1 := Aside0.mk hr0_1
 have HC0_1 := Aside0.mk hc0_1
 clear hr0_1 hc0_1
 have HR1 := Aside0.mk hr1
 have HC1 := Aside0.mk hc1
 clear hr1 hc1
 have HB := Aside0.mk (Below.refl w.heap.size w)
 have H : ((impl_hasNeeds_1.f k l0_1 l1).bind fun t103 => (some t103)) = some r := h
 clear h
 replace H := Option.bind_eq_some_iff.mp H
 obtain ⟨t103,A30,H⟩ := H
 try dsimp only at H
 have A3 := Aside0.mk A30
 clear A30
 obtain rfl := Option.some.inj H
 go_enter Try.func27,Try.ntmps27
 go_wp2_with (first|((with_reducible refine gate_dst (N := 2) rfl ?_);refine ZE 2 #[.string a0_0,.slice A0_1 l0_1.length c0_1,.int .i64 a0_2] 43 ?_;intro gb101 hg w4 hbox hb;have BK101 := Aside0.mk (hbox);have GW101 := Aside0.mk ((by rw [hg];exact (below_size (ZQ HB)) : w.heap.size ≤ gb101));have GE101 := Aside0.mk ((by rw [hg];exact (below_size (ZQ HB)) : w.heap.size ≤ gb101));replace HB := Aside0.mk (below_step (ZQ HB) hb);clear hb hbox hg)|((with_reducible refine gate_dst (N := 3) rfl ?_);refine ZE 3 #[.slice A1 l1.length c1] 32 ?_;intro gb102 hg w5 hbox hb;have BK102 := Aside0.mk (hbox);have GW102 := Aside0.mk ((by rw [hg];exact (below_size (by repeat (first|(with_reducible first|exact HB.out|apply below_alloc|apply pw_below_drewN|apply below_drew1|refine below_set ?_ GE101.out)|exact HB.out))) : w.heap.size ≤ gb102));have GE102 := Aside0.mk ((by rw [hg];exact (below_size (by repeat (first|(with_reducible first|exact HB.out|apply below_alloc|apply pw_below_drewN|apply below_drew1|refine below_set ?_ GE101.out)|exact HB.out))) : w.heap.size ≤ gb102));replace HB := Aside0.mk (below_step (by repeat (first|(with_reducible first|exact HB.out|apply below_alloc|apply pw_below_drewN|apply below_drew1|refine below_set ?_ GE101.out)|exact HB.out)) hb);have NB101_102 := Aside0.mk ((by rw [hg];exact Nat.ne_of_lt (blk_lt (g := gb101) (o := .cells #[.string a0_0,.slice A0_1 l0_1.length c0_1,.int .i64 a0_2] 43 (0,0)) (by (with_reducible repeat (first|refine blk_drewN ?_ _|refine blk_drew ?_|refine blk_alloc ?_ _));exact BK101.out)) : gb101 ≠ gb102));have NB102_101 := Aside0.mk ((by rw [hg];exact Nat.ne_of_gt (blk_lt (g := gb101) (o := .cells #[.string a0_0,.slice A0_1 l0_1.length c0_1,.int .i64 a0_2] 43 (0,0)) (by (with_reducible repeat (first|refine blk_drewN ?_ _|refine blk_drew ?_|refine blk_alloc ?_ _));exact BK101.out)) : gb102 ≠ gb101));replace BK101 := Aside0.mk (blk_below (g := gb101) (o := .cells #[.string a0_0,.slice A0_1 l0_1.length c0_1,.int .i64 a0_2] 43 (0,0)) (by (with_reducible repeat (first|refine blk_drewN ?_ _|refine blk_drew ?_|refine blk_alloc ?_ _));exact BK101.out) hb);clear hb hbox hg;have hnb6 := NB101_102.out;have hnc6 := NB102_101.out;have hcz7_0 : w5.cell? ⟨gb101,0,none⟩ = some (.string a0_0) := ZC BK101 0 rfl;have hcz7_1 : w5.cell? ⟨gb101,1,none⟩ = some (.slice A0_1 l0_1.length c0_1) := ZC BK101 1 rfl;have hcz7_2 : w5.cell? ⟨gb101,2,none⟩ = some (.int .i64 a0_2) := ZC BK101 2 rfl;have hfz7_0 := blk_frozen BK101.out 0;have hfz7_1 := blk_frozen BK101.out 1;have hfz7_2 := blk_frozen BK101.out 2)|((with_reducible refine gate_callee (f := 49) rfl ?_);refine goesL_ (some 8) rfl rfl Try.func49 (by kernel_rfl) rfl #[.slice A0_1 l0_1.length c0_1,.func (.func 50) #[] #[.pointer (some ⟨gb102,0,none⟩)]] rfl (by (try simp only [List.map_toArray,List.map_cons,List.map_nil]);first|done|rfl|(simp only [List.length_drop,List.length_take];rfl)) ?_;(with_reducible refine (impl_hasNeeds_1.calls k _ _ l0_1 A1 c1 l1 t103 _ ?side1 ?side2 ?side3 ?side4 ?side5 A3.out).mono ?_);(case side1 => exact ZR (Kd.C_below HR0_1.out HB.out));(case side2 => exact HC0_1.out);(case side3 => exact ZR (Kd.C_below HR1.out HB.out));(case side4 => exact HC1.out);(case side5 => exact (blk_cell (cs := #[.slice A1 l1.length c1]) (t := 32) (by (with_reducible repeat (first|refine blk_drewN ?_ _|refine blk_drew ?_|refine blk_alloc ?_ _));exact BK102.out) 0).trans rfl);rintro e w8 ⟨rfl,hb⟩;refine ⟨_,rfl,?_⟩;replace BK101 := Aside0.mk (blk_below (g := gb101) (o := .cells #[.string a0_0,.slice A0_1 l0_1.length c0_1,.int .i64 a0_2] 43 (0,0)) (by (with_reducible repeat (first|refine blk_drewN ?_ _|refine blk_drew ?_|refine blk_alloc ?_ _));exact BK101.out) hb);replace BK102 := Aside0.mk (blk_below (g := gb102) (o := .cells #[.slice A1 l1.length c1] 32 (0,0)) (by (with_reducible repeat (first|refine blk_drewN ?_ _|refine blk_drew ?_|refine blk_alloc ?_ _));exact BK102.out) hb);replace HB := Aside0.mk (below_step (by repeat (first|(with_reducible first|exact HB.out|apply below_alloc|apply pw_below_drewN|apply below_drew1|refine below_set ?_ GE101.out|refine below_set ?_ GE102.out)|exact HB.out)) hb);(try clear hb)))
 go_ret
 exact ⟨by first|rfl|(simp [*,errW_none,errW_some] <;> rfl),by repeat (first|(with_reducible first|exact HB.out|apply below_alloc|apply pw_below_drewN|apply below_drew1|refine below_set ?_ GE101.out|refine below_set ?_ GE102.out)|exact HB.out)⟩

/-! ### slices_Sort_int: function 28 -/
def slices_Sort_int.srt (l : List Int) : List Int := l.mergeSort fun x y => decide (x ≤ y)
def slices_Sort_int.f (l0 : List Int) : Option (List Int) := if l0.length < 4611686018427387904 then some (slices_Sort_int.srt l0) else none
set_option maxHeartbeats 1000000
open Go.RowKit Go.Lib Go.Sort Go.Proofs.YtgnijnlgbelifaaW.PrintWords Go.Proofs.YtgnijnlgbelifaaW.PrintLast Go.Proofs.YtgnijnlgbelifaaW.PrintMore Go.Proofs.YtgnijnlgbelifaaW Go.Proofs.Ytgnijnlgbelifaa.Q Go.Proofs.YtgnijnlgbelifaaW.GCall
theorem slices_Sort_int.nil_or {w : World} {base e n : Nat} {zs : List Int} (h : w.ownsRow base e 1 (.slice none 0 0) n (zs.map (Value.int .i64))) : zs = [] := by
 have hl : zs.length = n := by simpa using h.1
 rcases h.2 with ⟨_,h2⟩ | ⟨g,cap,cur,e0,_⟩
 ·exact List.eq_nil_of_length_eq_zero (by omega)
 cases e0
theorem slices_Sort_int.calls (P0_ : Nat → Prop) (u9000_ : Value) (l0 : List Int) (r1 : List Int) (w0 w : World) (hB : Below w0.heap.size w0 w) (ho0 : Kd.R (Kd.int .i64) 3 w w0.heap.size P0_ u9000_ l0) (h : slices_Sort_int.f l0 = some r1) :
  Calls Try.prog 28 #[u9000_] w fun e w' => e = .returned (.tuple #[]) ∧ Kd.R (Kd.int .i64) 3 w' w0.heap.size (fun k_ => (P0_ k_ ∨ w.heap.size ≤ k_)) u9000_ r1 ∧ Below w0.heap.size w0 w' ∧ Kept w w' (fun k_ => P0_ k_) := by
 unfold slices_Sort_int.f at h
 split at h
 case isFalse => cases h
 rename_i hl
 obtain rfl := Option.some.inj h
 clear h
 have ho : w.ownsRow w0.heap.size 3 1 u9000_ l0.length (l0.map (Value.int .i64)) := Kd.own_of_R ho0
 by_cases hv : u9000_ = .slice none 0 0
 ·subst hv
  obtain rfl := slices_Sort_int.nil_or ho
  refine (Try.slices_Sort_int_none none 0 w).mono ?_
  rintro e w' ⟨rfl,rfl⟩
  exact ⟨rfl,by simpa [slices_Sort_int.srt] using Kd.R_mono ho0 (fun k_ hk => .inl hk),hB,Kept.refl _ _⟩
 obtain ⟨g,cap,rfl,hb,hlt,hn,hm,_,hH⟩ := Lib.holds_of_ownsRow ho hv
 refine (Try.slices_Sort_int g 0 cap l0 w hH hlt hl).mono ?_
 rintro e w' ⟨rfl,n,os,rfl⟩
 have hlen : (slices_Sort_int.srt l0).length = l0.length := by simp [slices_Sort_int.srt]
 have h1 := Lib.ownsRow_putRow (q := n) (k := l0.length) (ys := slices_Sort_int.srt l0) ho hlen (Nat.le_refl _)
 rw [List.take_of_length_le (by omega)] at h1
 have hbel := below_grown (putRow (Value.int .i64) (Sort.ahead w n) g 0 (slices_Sort_int.srt l0).toArray) 0 os
 have hz : (putRow (Value.int .i64) (Sort.ahead w n) g 0 (slices_Sort_int.srt l0).toArray).heap.size = w.heap.size := by simp [putRow,mapBlock,Sort.ahead]
 have hP : P0_ g := ho0.1 g (by simp [Value.ownBlock])
 refine ⟨rfl,?_,?_,?_,?_⟩
 ·have h2 : Kd.R (Kd.int .i64) 3 (putRow (Value.int .i64) (Sort.ahead w n) g 0 (slices_Sort_int.srt l0).toArray) w0.heap.size (fun k_ => (P0_ k_ ∨ w.heap.size ≤ k_)) (.slice (some ⟨g,0,none⟩) l0.length cap) (slices_Sort_int.srt l0) := Kd.R_of_own (by rw [hlen];exact h1) (fun k hk => .inl (ho0.1 k hk))
  exact Kd.R_below h2 hbel
 ·have hp := Lib.below_putRow (enc := Value.int .i64) (q := n) (d := (slices_Sort_int.srt l0).toArray) hB hb
  exact hp.trans (hbel.mono (by rw [hz];exact hB.size))
 ·exact Nat.le_trans (Nat.le_of_eq hz.symm) hbel.size
 intro i hi hni
 refine (hbel.block i (by rw [hz];exact hi)).trans ?_
 have hne : g ≠ i := fun e => hni (e ▸ hP)
 simp [putRow,mapBlock,Sort.ahead,Array.getElem?_modify,hne]


end Go.Proofs.Ytgnijnlgbelifaa.Q
