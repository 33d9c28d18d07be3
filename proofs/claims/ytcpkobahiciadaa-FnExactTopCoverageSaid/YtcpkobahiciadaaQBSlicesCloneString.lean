-- Written for the seat Ytcpkobahiciadaa by a program of this session (wip/tool/gx.py) out of the translation. Lean checks it.
import Derived.Test.YtcpkobahiciadaaQ0
import Derived.WalkSpells
import Derived.Test.YtcpkobahiciadaaS190
import Derived.Test.YtcpkobahiciadaaS194
import Derived.Shelf.GgClosure.Gives
import Derived.Lib.OwnBridge
import Derived.Test.YtcpkobahiciadaaWApart
import Derived.Test.YtcpkobahiciadaaWFoot
import Derived.Test.YtcpkobahiciadaaWKept
import Derived.Test.YtcpkobahiciadaaWShare
import Derived.Test.YtcpkobahiciadaaWN
import Derived.Test.YtcpkobahiciadaaWRepsOne
namespace Go.Proofs.Ytcpkobahiciadaa.Q
open Go.RowKit Go.Proofs.YtcpkobahiciadaaW.PrintWords Go.Proofs.YtcpkobahiciadaaW.PrintLast Go.Proofs.YtcpkobahiciadaaW.PrintMore
attribute [local go_sem] max2_int min2_int max_two min_two max_three min_three max_four min_four   -- for this text's walks alone
set_option linter.unusedVariables false
set_option linter.unusedSimpArgs false

/-! ### slices_Clone_string: function 134 -/
def slices_Clone_string.f (l0 : List ByteArray) : Option (List ByteArray) := (some (([] : List ByteArray) : List ByteArray)).bind fun y101 => (if y101.length + l0.length < 8796093022208 then (some (y101 ++ l0)) else (none))
set_option maxHeartbeats 3000000 in
set_option maxRecDepth 100000 in
theorem slices_Clone_string.calls (A0 : Option Addr) (c0 : Nat) (l0 : List ByteArray) (r : List ByteArray) (w : World) (hr0 : Kd.C Kd.string w A0 l0.length l0) (hc0 : l0.length ≤ c0) (h : slices_Clone_string.f l0 = some r) :
  Calls Try.prog 134 #[.slice A0 l0.length c0] w fun e w' => ∃ v0_ : Value, e = .returned (v0_) ∧ Kd.R Kd.string 9 w' w.heap.size (fun _ => True) v0_ r ∧ Below w.heap.size w w' := by
 cases A0 with
 | none =>
  obtain rfl : l0 = [] := by
   rcases Nat.eq_zero_or_pos l0.length with h0_ | h0_
   ·exact List.eq_nil_of_length_eq_zero h0_
   ·obtain ⟨_, e_, _⟩ := hr0.2.2 h0_
    cases e_
  have hr_ : r = [] := by simp [slices_Clone_string.f] at h; first | exact h | exact h.symm
  subst hr_
  have hu53 := Try.underlying53
  have hq_ := fun (w : World) (n c n' c' : Nat) => Lib.run_eql_slice_nil (P := Try.prog) w 53 9 none n c n' c' hu53
  go_enter Try.func134, Try.ntmps134
  go_wp2
  go_ret
  exact ⟨.slice none 0 0, rfl, Kd.R_nil _ _ _ _ _, Below.refl _ _⟩
 | some ad0_ =>
  have hu_ := Try.underlying53
  have hq_ := fun (w : World) (n c n' c' : Nat) => Lib.run_eql_slice_nil (P := Try.prog) w 53 9 (some ad0_) n c n' c' hu_
  have HR0 := Aside0.mk hr0
  have HC0 := Aside0.mk hc0
  clear hr0 hc0
  have HB := Aside0.mk (Below.refl w.heap.size w)
  have H : ((some (([] : List ByteArray) : List ByteArray)).bind fun y101 => (if y101.length + l0.length < 8796093022208 then (some (y101 ++ l0)) else (none))) = some r := h
  clear h
  obtain ⟨y101, hy101⟩ : ∃ y_ : List ByteArray, y_ = (([] : List ByteArray)) := ⟨_, rfl⟩
  replace H : (if y101.length + l0.length < 8796093022208 then (some (y101 ++ l0)) else (none)) = some r := by first | (rw [hy101]; with_reducible exact H) | (have H2_ := (Option.bind_some _ _).symm.trans H; rw [hy101]; with_reducible exact H2_) | (have H2_ := (Option.bind_some _ _).symm.trans H; with_reducible exact H2_) | with_reducible exact H | (rw [hy101]; exact H) | exact H
  have Ny101 := Aside0.mk hy101
  clear hy101
  by_cases c2 : y101.length + l0.length < 8796093022208
  ·rw [if_pos c2] at H
   have LMc2 := Aside0.mk c2
   clear c2
   obtain ⟨y104, hy104⟩ : ∃ y_ : List ByteArray, y_ = (y101 ++ l0) := ⟨_, rfl⟩
   replace H : (some y104) = some r := by first | (rw [hy104]; with_reducible exact H) | (have H2_ := (Option.bind_some _ _).symm.trans H; rw [hy104]; with_reducible exact H2_) | (have H2_ := (Option.bind_some _ _).symm.trans H; with_reducible exact H2_) | with_reducible exact H | (rw [hy104]; exact H) | exact H
   have Ny104 := Aside0.mk hy104
   clear hy104
   obtain rfl := Option.some.inj H
   go_enter Try.func134, Try.ntmps134
   go_wp2_with (first | ((with_reducible refine gate_dst (N := 5) rfl ?_); refine Kd.R_lit Kd.string _ 9 ?hg (N := 5) ?hd (xs := ([] : List ByteArray)) (inner := []) (ok := fun _ => True) (okp := fun _ => True) ?hr ?hp (fun _ hk => hk) trivial (Below.refl _ _) (Nat.le_refl _) (by simp) ?_; (case hd => rfl); (case hg => rfl); (case hr => first | (go_simp; done) | (go_simp; rfl)); (case hp => exact (Reps.none _ _)); intro v102 w3 ho4 hb hg_ hnew_; clear hg_ hnew_; (first | rw [← Ny101.out] at ho4 | (simp only [Int.reduceToNat] at ho4; rw [← Ny101.out] at ho4)); have n0_ := Aside0.mk (Kd.R_lower ho4 (below_size (by repeat (first | exact HB.out | apply below_alloc | apply pw_below_drewN | apply below_drew1)))); have n1_ := Aside0.mk (below_step (by repeat (first | exact HB.out | apply below_alloc | apply pw_below_drewN | apply below_drew1)) hb); clear HB; have HO103 := n0_; have HB := n1_; clear n0_ n1_; clear hb ho4) | ((with_reducible refine gate_builtin (b := .append) (xs := #[.tmp 5, .tmp 6]) rfl ?_); at_builtin; refine Kd.R_append_rows Kd.string (w0 := w) w.heap.size rfl (.tmp 5) (.tmp 6) 53 9 (.string ⟨#[]⟩) 16 rfl Try.underlying53 info9 rfl (by decide) (by omega) v102 y101 l0 _ _ _ (fun _ => True) (fun _ => False) rfl rfl ?aO ?aR (fun _ _ h => h) (fun _ h => h.elim) ?aF ?aB ?aS ?aL ?_; (case aR => repeat (first | exact (Kd.C_below HR0.out HB.out) | (with_reducible refine Kd.C_alloc ?_ _) | (with_reducible refine Kd.C_drewN ?_ _) | (with_reducible refine Kd.C_drew ?_))); (case aB => exact (by repeat (first | exact HB.out | apply below_alloc | apply pw_below_drewN | apply below_drew1))); (case aF => exact (fun _ _ => trivial)); (case aO => exact (by (with_reducible repeat (first | apply Kd.R_alloc | apply Kd.R_drewN | apply Kd.R_drew)); exact HO103.out)); (case aS => exact (below_size (by repeat (first | exact HB.out | apply below_alloc | apply pw_below_drewN | apply below_drew1)))); (case aL => have := LMc2.out; omega); intro v105 w5 ho hb hg hat; rw [← Ny104.out] at ho; have n0_ := Aside0.mk (hb); have n1_ := Aside0.mk (ho); clear HB; clear HO103; have HB := n0_; have HO106 := n1_; clear n0_ n1_; clear ho hb hg hat))
   go_ret
   exact ⟨_, by first | rfl | (simp [*, errW_none, errW_some] <;> rfl), by (with_reducible repeat (first | apply Kd.R_alloc | apply Kd.R_drewN | apply Kd.R_drew)); exact HO106.out, by repeat (first | exact HB.out | apply below_alloc | apply pw_below_drewN | apply below_drew1)⟩
  ·rw [if_neg c2] at H
   exact absurd H (by simp)


/-! ### impl_distinct_string: function 113 -/
def impl_distinct_string.un (l : List ByteArray) : List (List UInt8) := l.map (·.data.toList)
def impl_distinct_string.tb (l : List (List UInt8)) : List ByteArray := l.map fun b => ⟨b.toArray⟩
def impl_distinct_string.sorted (l : List ByteArray) : List ByteArray := impl_distinct_string.tb ((impl_distinct_string.un l).mergeSort fun x y => decide (x ≤ y))
def impl_distinct_string.comp (l : List ByteArray) : List ByteArray := impl_distinct_string.tb (Lib.compact (impl_distinct_string.un l))
def impl_distinct_string.f (l0 : List ByteArray) : Option (List ByteArray) := (slices_Clone_string.f l0).bind fun l1 => some (impl_distinct_string.comp (impl_distinct_string.sorted l1))

set_option maxHeartbeats 1000000
open Go.Lib Go.Sort
theorem impl_distinct_string.enc_tb (l : List (List UInt8)) : (impl_distinct_string.tb l).map Value.string = l.map encStr := by
 unfold impl_distinct_string.tb
 rw [List.map_map]
 rfl
theorem impl_distinct_string.un_tb (l : List (List UInt8)) : impl_distinct_string.un (impl_distinct_string.tb l) = l := by
 unfold impl_distinct_string.un impl_distinct_string.tb
 rw [List.map_map]
 exact List.map_id'' (fun x => by simp) l
theorem impl_distinct_string.nil_or {w : World} {base e n : Nat} {zs : List ByteArray} (h : w.ownsRow base e 1 (.slice none 0 0) n (zs.map Value.string)) : zs = [] := by
 have hl : zs.length = n := by simpa using h.1
 rcases h.2 with ⟨_, h2⟩ | ⟨g, cap, cur, e0, _⟩
 ·exact List.eq_nil_of_length_eq_zero (by omega)
 ·cases e0
theorem impl_distinct_string.sort (w : World) (base : Nat) (ok : Nat → Prop) (v : Value) (l : List ByteArray) (h : Kd.R Kd.string 9 w base ok v l) (hl : l.length < 4611686018427387904) :
  Calls Try.prog 135 #[v] w fun e w' => e = .returned (.tuple #[]) ∧ Kd.R Kd.string 9 w' base ok v (impl_distinct_string.sorted l) ∧ ∀ B w0, B ≤ base → Below B w0 w → Below B w0 w' := by
 have ho : w.ownsRow base 9 1 v l.length (l.map Value.string) := Kd.own_of_R h
 by_cases hv : v = .slice none 0 0
 ·subst hv
  obtain rfl := impl_distinct_string.nil_or ho
  refine (Try.slices_Sort_string_none none 0 w).mono ?_
  rintro e w' ⟨rfl, rfl⟩
  exact ⟨rfl, by simpa [impl_distinct_string.sorted, impl_distinct_string.un, impl_distinct_string.tb] using h, fun _ _ _ hb => hb⟩
 ·rw [← Lib.map_encStr] at ho
  obtain ⟨g, cap, rfl, hb, hlt, hn, hm, hl2, hH⟩ := Lib.holds_of_ownsRow ho hv
  have hul : (impl_distinct_string.un l).length = l.length := by simp [impl_distinct_string.un]
  have hcon := Try.slices_Sort_string g 0 cap (impl_distinct_string.un l) w hH hlt (by omega)
  rw [hul] at hcon
  refine hcon.mono ?_
  rintro e w' ⟨rfl, n, os, rfl⟩
  generalize hS : ((impl_distinct_string.un l).mergeSort fun x y => decide (x ≤ y)) = S
  have hlen : S.length = l.length := by rw [← hS]; simp [impl_distinct_string.un]
  have h1 := Lib.ownsRow_putRow (q := n) (k := l.length) (ys := S) ho hlen (Nat.le_refl _)
  rw [List.take_of_length_le (by omega), ← impl_distinct_string.enc_tb] at h1
  have hbel := below_grown (putRow encStr (Sort.ahead w n) g 0 S.toArray) 0 os
  have hsl : (impl_distinct_string.tb S).length = l.length := by simp [impl_distinct_string.tb, hlen]
  refine ⟨rfl, ?_, ?_⟩
  ·have h2 : Kd.R Kd.string 9 (putRow encStr (Sort.ahead w n) g 0 S.toArray) base ok (.slice (some ⟨g, 0, none⟩) l.length cap) (impl_distinct_string.tb S) := Kd.R_of_own (by rw [hsl]; exact h1) h.1
   unfold impl_distinct_string.sorted
   rw [hS]
   exact Kd.R_below h2 hbel
  ·intro B w0 hB hb0
   have hp := Lib.below_putRow (enc := encStr) (q := n) (d := S.toArray) hb0 (Nat.le_trans hB hb)
   have hz : (putRow encStr (Sort.ahead w n) g 0 S.toArray).heap.size = w.heap.size := by simp [putRow, mapBlock, Sort.ahead]
   exact hp.trans (hbel.mono (by rw [hz]; omega))
theorem impl_distinct_string.compact (w : World) (base : Nat) (ok : Nat → Prop) (v : Value) (l : List ByteArray) (h : Kd.R Kd.string 9 w base ok v l) (hl : l.length ≤ 9223372036854775807) :
  Calls Try.prog 136 #[v] w fun e w' => ∃ v1, e = .returned v1 ∧ Kd.R Kd.string 9 w' base ok v1 (impl_distinct_string.comp l) ∧ ∀ B w0, B ≤ base → Below B w0 w → Below B w0 w' := by
 have ho : w.ownsRow base 9 1 v l.length (l.map Value.string) := Kd.own_of_R h
 by_cases hv : v = .slice none 0 0
 ·subst hv
  obtain rfl := impl_distinct_string.nil_or ho
  refine (Try.slices_Compact_string_empty none 0 w).mono ?_
  rintro e w' ⟨rfl, rfl⟩
  exact ⟨_, rfl, h, fun _ _ _ hb => hb⟩
 ·rw [← Lib.map_encStr] at ho
  obtain ⟨g, cap, rfl, hb, hlt, hn, hm, hl2, hH⟩ := Lib.holds_of_ownsRow ho hv
  have hul : (impl_distinct_string.un l).length = l.length := by simp [impl_distinct_string.un]
  have hcon := Try.slices_Compact_string g 0 cap (impl_distinct_string.un l) w hH (by omega) (by omega)
  rw [hul] at hcon
  refine hcon.mono ?_
  rintro e w' ⟨rfl, q, rfl⟩
  have hlen : (Lib.compact (impl_distinct_string.un l)).length ≤ l.length := by rw [← hul]; exact Lib.compact_length_le _
  have h1 := Lib.ownsRow_putRow (q := q) (k := (Lib.compact (impl_distinct_string.un l)).length) (ys := Lib.compact (impl_distinct_string.un l) ++ List.replicate (l.length - (Lib.compact (impl_distinct_string.un l)).length) []) ho (by simp; omega) hlen
  rw [List.take_left, ← impl_distinct_string.enc_tb] at h1
  have hsl : (impl_distinct_string.comp l).length = (Lib.compact (impl_distinct_string.un l)).length := by simp [impl_distinct_string.comp, impl_distinct_string.tb]
  exact ⟨_, rfl, Kd.R_of_own (by rw [hsl]; exact h1) (fun k hk => h.1 k hk), fun B w0 hB hb0 => Lib.below_putRow hb0 (Nat.le_trans hB hb)⟩
set_option maxHeartbeats 1000000 in
theorem impl_distinct_string.calls (A0 : Option Addr) (c0 : Nat) (l0 : List ByteArray) (r : List ByteArray) (w : World) (hr0 : Kd.C Kd.string w A0 l0.length l0) (hc0 : l0.length ≤ c0) (h : impl_distinct_string.f l0 = some r) :
  Calls Try.prog 113 #[.slice A0 l0.length c0] w fun e w' => ∃ v0_ : Value, e = .returned v0_ ∧ Kd.R Kd.string 9 w' w.heap.size (fun _ => True) v0_ r ∧ Below w.heap.size w w' := by
 unfold impl_distinct_string.f at h
 obtain ⟨l1, hc, h2⟩ := Option.bind_eq_some_iff.mp h
 obtain rfl := Option.some.inj h2
 clear h h2
 have hl1 : l1.length < 8796093022208 := by
  unfold slices_Clone_string.f at hc
  simp only [Option.bind_some, List.length_nil, Nat.zero_add, List.nil_append] at hc
  split at hc
  ·obtain rfl := Option.some.inj hc
   assumption
  ·cases hc
 have hl2 : (impl_distinct_string.sorted l1).length ≤ 9223372036854775807 := by simp [impl_distinct_string.sorted, impl_distinct_string.un, impl_distinct_string.tb]; omega
 have HCL := Aside0.mk (slices_Clone_string.calls A0 c0 l0 l1 w hr0 hc0 hc)
 have HL := Aside0.mk hl1
 have HL2 := Aside0.mk hl2
 clear hr0 hc hl1 hl2
 generalize hg : impl_distinct_string.sorted l1 = l2 at HL2 ⊢
 have HG := Aside0.mk hg
 clear hg
 go_enter Try.func113, Try.ntmps113
 go_wp2_with (first | (go_at_call 134; refine HCL.out.mono ?_; rintro e w1 ⟨v0_, rfl, ho, hb⟩; have HO := Aside0.mk ho; have HB := Aside0.mk hb; clear ho hb HCL) | (go_at_call 135; refine (impl_distinct_string.sort _ _ _ _ _ (by (with_reducible repeat (first | apply Kd.R_alloc | apply Kd.R_drewN | apply Kd.R_drew)); exact HO.out) (Nat.lt_trans HL.out (by decide))).mono ?_; rintro e w2 ⟨rfl, ho, hb⟩; have n0_ := Aside0.mk ho; have n1_ := Aside0.mk (hb _ _ (Nat.le_refl _) (by repeat (first | exact HB.out | apply below_alloc | apply pw_below_drewN | apply below_drew1))); clear HO HB ho hb; have HO := n0_; have HB := n1_; clear n0_ n1_) | (go_at_call 136; refine (impl_distinct_string.compact _ _ _ _ _ (by (with_reducible repeat (first | apply Kd.R_alloc | apply Kd.R_drewN | apply Kd.R_drew)); exact HO.out) (by rw [HG.out]; exact HL2.out)).mono ?_; rintro e w3 ⟨v1_, rfl, ho, hb⟩; have n0_ := Aside0.mk ho; have n1_ := Aside0.mk (hb _ _ (Nat.le_refl _) (by repeat (first | exact HB.out | apply below_alloc | apply pw_below_drewN | apply below_drew1))); clear HO HB ho hb; have HO := n0_; have HB := n1_; clear n0_ n1_))
 go_ret
 exact ⟨_, rfl, by rw [← HG.out]; exact HO.out, HB.out⟩


end Go.Proofs.Ytcpkobahiciadaa.Q
