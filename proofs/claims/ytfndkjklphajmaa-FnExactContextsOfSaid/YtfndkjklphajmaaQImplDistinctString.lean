-- Written for the seat Ytfndkjklphajmaa by a program of this session (wip/tool/gx.py) out of the translation. Lean checks it.
import Derived.Test.YtfndkjklphajmaaQ0
import Derived.Test.YtfndkjklphajmaaQSlicesCloneString
import Derived.Test.YtfndkjklphajmaaS190
import Derived.Test.YtfndkjklphajmaaS194
import Derived.Shelf.GgClosure.Gives
import Derived.Lib.OwnBridge
import Derived.Test.YtfndkjklphajmaaWApart
import Derived.Test.YtfndkjklphajmaaWFoot
import Derived.Test.YtfndkjklphajmaaWKept
import Derived.Test.YtfndkjklphajmaaWShare
namespace Go.Proofs.Ytfndkjklphajmaa.Q
open Go.RowKit Go.Proofs.YtfndkjklphajmaaW.PrintWords Go.Proofs.YtfndkjklphajmaaW.PrintLast Go.Proofs.YtfndkjklphajmaaW.PrintMore
attribute [local go_sem] max2_int min2_int max_two min_two max_three min_three max_four min_four   -- for this text's walks alone
set_option linter.unusedVariables false
set_option linter.unusedSimpArgs false

/-! ### impl_distinct_string: function 52 -/
def impl_distinct_string.un (l : List ByteArray) : List (List UInt8) := l.map (·.data.toList)
def impl_distinct_string.tb (l : List (List UInt8)) : List ByteArray := l.map fun b => ⟨b.toArray⟩
def impl_distinct_string.sorted (l : List ByteArray) : List ByteArray := impl_distinct_string.tb ((impl_distinct_string.un l).mergeSort fun x y => decide (x ≤ y))
def impl_distinct_string.comp (l : List ByteArray) : List ByteArray := impl_distinct_string.tb (Lib.compact (impl_distinct_string.un l))
def impl_distinct_string.f (l0 : List ByteArray) : Option (List ByteArray) := (slices_Clone_string.f l0).bind fun l1 => some (impl_distinct_string.comp (impl_distinct_string.sorted l1))

set_option maxHeartbeats 1000000
open Go.Lib Go.Sort
theorem impl_distinct_string.enc_tb (l : List (List UInt8)) : (impl_distinct_string.tb l).map Value.string = l.map encStr := by
  unfold impl_distinct_string.tb
  rw [List.map_map]
  rfl
theorem impl_distinct_string.un_tb (l : List (List UInt8)) : impl_distinct_string.un (impl_distinct_string.tb l) = l := by
  unfold impl_distinct_string.un impl_distinct_string.tb
  rw [List.map_map]
  exact List.map_id'' (fun x => by simp) l
theorem impl_distinct_string.nil_or {w : World} {base e n : Nat} {zs : List ByteArray} (h : w.ownsRow base e 1 (.slice none 0 0) n (zs.map Value.string)) : zs = [] := by
  have hl : zs.length = n := by simpa using h.1
  rcases h.2 with ⟨_, h2⟩ | ⟨g, cap, cur, e0, _⟩
  · exact List.eq_nil_of_length_eq_zero (by omega)
  · cases e0
theorem impl_distinct_string.sort (w : World) (base : Nat) (ok : Nat → Prop) (v : Value) (l : List ByteArray) (h : Kd.R Kd.string 9 w base ok v l) (hl : l.length < 4611686018427387904) :
    Calls Try.prog 68 #[v] w fun e w' => e = .returned (.tuple #[]) ∧ Kd.R Kd.string 9 w' base ok v (impl_distinct_string.sorted l) ∧ ∀ B w0, B ≤ base → Below B w0 w → Below B w0 w' := by
  have ho : w.ownsRow base 9 1 v l.length (l.map Value.string) := Kd.own_of_R h
  by_cases hv : v = .slice none 0 0
  · subst hv
    obtain rfl := impl_distinct_string.nil_or ho
    refine (Try.slices_Sort_string_none none 0 w).mono ?_
    rintro e w' ⟨rfl, rfl⟩
    exact ⟨rfl, by simpa [impl_distinct_string.sorted, impl_distinct_string.un, impl_distinct_string.tb] using h, fun _ _ _ hb => hb⟩
  · rw [← Lib.map_encStr] at ho
    obtain ⟨g, cap, rfl, hb, hlt, hn, hm, hl2, hH⟩ := Lib.holds_of_ownsRow ho hv
    have hul : (impl_distinct_string.un l).length = l.length := by simp [impl_distinct_string.un]
    have hcon := Try.slices_Sort_string g 0 cap (impl_distinct_string.un l) w hH hlt (by omega)
    rw [hul] at hcon
    refine hcon.mono ?_
    rintro e w' ⟨rfl, n, os, rfl⟩
    generalize hS : ((impl_distinct_string.un l).mergeSort fun x y => decide (x ≤ y)) = S
    have hlen : S.length = l.length := by rw [← hS]; simp [impl_distinct_string.un]
    have h1 := Lib.ownsRow_putRow (q := n) (k := l.length) (ys := S) ho hlen (Nat.le_refl _)
    rw [List.take_of_length_le (by omega), ← impl_distinct_string.enc_tb] at h1
    have hbel := below_grown (putRow encStr (Sort.ahead w n) g 0 S.toArray) 0 os
    have hsl : (impl_distinct_string.tb S).length = l.length := by simp [impl_distinct_string.tb, hlen]
    refine ⟨rfl, ?_, ?_⟩
    · have h2 : Kd.R Kd.string 9 (putRow encStr (Sort.ahead w n) g 0 S.toArray) base ok (.slice (some ⟨g, 0, none⟩) l.length cap) (impl_distinct_string.tb S) := Kd.R_of_own (by rw [hsl]; exact h1) h.1
      unfold impl_distinct_string.sorted
      rw [hS]
      exact Kd.R_below h2 hbel
    · intro B w0 hB hb0
      have hp := Lib.below_putRow (enc := encStr) (q := n) (d := S.toArray) hb0 (Nat.le_trans hB hb)
      have hz : (putRow encStr (Sort.ahead w n) g 0 S.toArray).heap.size = w.heap.size := by simp [putRow, mapBlock, Sort.ahead]
      exact hp.trans (hbel.mono (by rw [hz]; omega))
theorem impl_distinct_string.compact (w : World) (base : Nat) (ok : Nat → Prop) (v : Value) (l : List ByteArray) (h : Kd.R Kd.string 9 w base ok v l) (hl : l.length ≤ 9223372036854775807) :
    Calls Try.prog 69 #[v] w fun e w' => ∃ v1, e = .returned v1 ∧ Kd.R Kd.string 9 w' base ok v1 (impl_distinct_string.comp l) ∧ ∀ B w0, B ≤ base → Below B w0 w → Below B w0 w' := by
  have ho : w.ownsRow base 9 1 v l.length (l.map Value.string) := Kd.own_of_R h
  by_cases hv : v = .slice none 0 0
  · subst hv
    obtain rfl := impl_distinct_string.nil_or ho
    refine (Try.slices_Compact_string_empty none 0 w).mono ?_
    rintro e w' ⟨rfl, rfl⟩
    exact ⟨_, rfl, h, fun _ _ _ hb => hb⟩
  · rw [← Lib.map_encStr] at ho
    obtain ⟨g, cap, rfl, hb, hlt, hn, hm, hl2, hH⟩ := Lib.holds_of_ownsRow ho hv
    have hul : (impl_distinct_string.un l).length = l.length := by simp [impl_distinct_string.un]
    have hcon := Try.slices_Compact_string g 0 cap (impl_distinct_string.un l) w hH (by omega) (by omega)
    rw [hul] at hcon
    refine hcon.mono ?_
    rintro e w' ⟨rfl, q, rfl⟩
    have hlen : (Lib.compact (impl_distinct_string.un l)).length ≤ l.length := by rw [← hul]; exact Lib.compact_length_le _
    have h1 := Lib.ownsRow_putRow (q := q) (k := (Lib.compact (impl_distinct_string.un l)).length) (ys := Lib.compact (impl_distinct_string.un l) ++ List.replicate (l.length - (Lib.compact (impl_distinct_string.un l)).length) []) ho (by simp; omega) hlen
    rw [List.take_left, ← impl_distinct_string.enc_tb] at h1
    have hsl : (impl_distinct_string.comp l).length = (Lib.compact (impl_distinct_string.un l)).length := by simp [impl_distinct_string.comp, impl_distinct_string.tb]
    exact ⟨_, rfl, Kd.R_of_own (by rw [hsl]; exact h1) (fun k hk => h.1 k hk), fun B w0 hB hb0 => Lib.below_putRow hb0 (Nat.le_trans hB hb)⟩
set_option maxHeartbeats 1000000 in
theorem impl_distinct_string.calls (A0 : Option Addr) (c0 : Nat) (l0 : List ByteArray) (r : List ByteArray) (w : World) (hr0 : Kd.C Kd.string w A0 l0.length l0) (hc0 : l0.length ≤ c0) (h : impl_distinct_string.f l0 = some r) :
    Calls Try.prog 52 #[.slice A0 l0.length c0] w fun e w' => ∃ v0_ : Value, e = .returned v0_ ∧ Kd.R Kd.string 9 w' w.heap.size (fun _ => True) v0_ r ∧ Below w.heap.size w w' := by
  unfold impl_distinct_string.f at h
  obtain ⟨l1, hc, h2⟩ := Option.bind_eq_some_iff.mp h
  obtain rfl := Option.some.inj h2
  clear h h2
  have hl1 : l1.length < 8796093022208 := by
    unfold slices_Clone_string.f at hc
    simp only [Option.bind_some, List.length_nil, Nat.zero_add, List.nil_append] at hc
    split at hc
    · obtain rfl := Option.some.inj hc
      assumption
    · cases hc
  have hl2 : (impl_distinct_string.sorted l1).length ≤ 9223372036854775807 := by simp [impl_distinct_string.sorted, impl_distinct_string.un, impl_distinct_string.tb]; omega
  have HCL := Aside0.mk (slices_Clone_string.calls A0 c0 l0 l1 w hr0 hc0 hc)
  have HL := Aside0.mk hl1
  have HL2 := Aside0.mk hl2
  clear hr0 hc hl1 hl2
  generalize hg : impl_distinct_string.sorted l1 = l2 at HL2 ⊢
  have HG := Aside0.mk hg
  clear hg
  go_enter Try.func52, Try.ntmps52
  go_wp2_with (first | (go_at_call 67; refine HCL.out.mono ?_; rintro e w1 ⟨v0_, rfl, ho, hb⟩; have HO := Aside0.mk ho; have HB := Aside0.mk hb; clear ho hb HCL) | (go_at_call 68; refine (impl_distinct_string.sort _ _ _ _ _ (by (with_reducible repeat (first | apply Kd.R_alloc | apply Kd.R_drewN | apply Kd.R_drew)); exact HO.out) (Nat.lt_trans HL.out (by decide))).mono ?_; rintro e w2 ⟨rfl, ho, hb⟩; have n0_ := Aside0.mk ho; have n1_ := Aside0.mk (hb _ _ (Nat.le_refl _) (by repeat (first | (with_reducible first | exact HB.out | apply below_alloc | apply pw_below_drewN | apply below_drew1) | exact HB.out))); clear HO HB ho hb; have HO := n0_; have HB := n1_; clear n0_ n1_) | (go_at_call 69; refine (impl_distinct_string.compact _ _ _ _ _ (by (with_reducible repeat (first | apply Kd.R_alloc | apply Kd.R_drewN | apply Kd.R_drew)); exact HO.out) (by rw [HG.out]; exact HL2.out)).mono ?_; rintro e w3 ⟨v1_, rfl, ho, hb⟩; have n0_ := Aside0.mk ho; have n1_ := Aside0.mk (hb _ _ (Nat.le_refl _) (by repeat (first | (with_reducible first | exact HB.out | apply below_alloc | apply pw_below_drewN | apply below_drew1) | exact HB.out))); clear HO HB ho hb; have HO := n0_; have HB := n1_; clear n0_ n1_))
  go_ret
  exact ⟨_, rfl, by rw [← HG.out]; exact HO.out, HB.out⟩


end Go.Proofs.Ytfndkjklphajmaa.Q
