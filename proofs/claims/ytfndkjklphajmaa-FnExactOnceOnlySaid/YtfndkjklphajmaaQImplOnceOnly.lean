-- Written for the seat Ytfndkjklphajmaa by a program of this session (wip/tool/gx.py) out of the translation. Lean checks it.
import Derived.Test.YtfndkjklphajmaaQ0
import Derived.Test.YtfndkjklphajmaaQImplAreTokens
import Derived.Test.YtfndkjklphajmaaQImplDistinctString
import Derived.Test.YtfndkjklphajmaaQImplPlacesOf
import Derived.Ground.SlgfProg
import Derived.Test.YtfndkjklphajmaaGDel
import Derived.Test.YtfndkjklphajmaaWFoot
import Derived.Test.YtfndkjklphajmaaWKept
import Derived.Test.YtfndkjklphajmaaWShare
namespace Go.Proofs.Ytfndkjklphajmaa.Q
open Go.RowKit Go.Proofs.YtfndkjklphajmaaW.PrintWords Go.Proofs.YtfndkjklphajmaaW.PrintLast Go.Proofs.YtfndkjklphajmaaW.PrintMore
attribute [local go_sem] max2_int min2_int max_two min_two max_three min_three max_four min_four   -- for this text's walks alone
set_option linter.unusedVariables false
set_option linter.unusedSimpArgs false

/-! ### impl_OnceOnly: function 34 -/
def impl_OnceOnly.more (l0 : List ByteArray) (g : ByteArray) : Bool := decide (((impl_placesOf.at (fun s => decide (s.toList = g.toList)) l0 l0.length 0 []).length : Int) > 1)
def impl_OnceOnly.f (k : Nat) (l0 : List ByteArray) : Option (List ByteArray × Bool) := (impl_areTokens.f k l0).bind fun b => if b = true then (if l0.length < 17592186044416 then ((impl_distinct_string.f l0).bind fun d => some (d.filter (fun g => !(impl_OnceOnly.more l0 g)), true)) else none) else some ([], false)
theorem impl_OnceOnly.mono : ∀ a0 k, LeO (impl_OnceOnly.f k a0) (impl_OnceOnly.f (k + 1) a0) := by
  intro a0 k
  unfold impl_OnceOnly.f
  exact LeO.bind (impl_areTokens.mono _ _) fun _ => LeO.refl _
set_option maxHeartbeats 1000000
end Go.Proofs.Ytfndkjklphajmaa.Q
namespace Go.Proofs
open Go.Shelf
shelf_lay_g SlLaysH.n10 Slgf 10 at Try 53 as Try.laysD53
end Go.Proofs
namespace Go.Proofs.Ytfndkjklphajmaa.Q
open Go.RowKit Go.Lib Go.Proofs.YtfndkjklphajmaaW.PrintWords Go.Proofs.YtfndkjklphajmaaW.PrintLast Go.Proofs.YtfndkjklphajmaaW.PrintMore Go.Proofs.YtfndkjklphajmaaW Go.Proofs.Ytfndkjklphajmaa.Q
set_option linter.unusedVariables false
set_option linter.unusedSimpArgs false
set_option maxHeartbeats 1000000 in
set_option maxRecDepth 100000 in
theorem impl_OnceOnly.pred (A0 : Option Addr) (c0 : Nat) (l0 : List ByteArray) (w W : World) (hr0 : Kd.C Kd.string w A0 l0.length l0) (hc0 : l0.length ≤ c0) (hl : l0.length < 17592186044416) (hW : Below w.heap.size w W) (hcell : W.cell? ⟨w.heap.size, 0, none⟩ = some (.slice A0 l0.length c0)) (g : ByteArray) :
    Calls Try.prog 54 (#[.string g] ++ #[.pointer (some ⟨w.heap.size, 0, none⟩)]) W fun e w' => e = .returned (.bool (impl_OnceOnly.more l0 g)) ∧ Below W.heap.size W w' := by
  unfold impl_OnceOnly.more
  have hcon := fun W' (hb : Below W.heap.size W W') => impl_placesOf.calls A0 c0 l0 g (impl_placesOf.at (fun s => decide (s.toList = g.toList)) l0 l0.length 0 []) W' (Kd.C_below (Kd.C_below hr0 hW) hb) hc0 (by unfold impl_placesOf.f; rw [if_pos hl])
  generalize impl_placesOf.at (fun s => decide (s.toList = g.toList)) l0 l0.length 0 [] = r at hcon ⊢
  have HC := Aside0.mk hcon
  clear hcon hr0 hW
  show Calls Try.prog 54 #[.string g, .pointer (some ⟨w.heap.size, 0, none⟩)] W _
  generalize w.heap.size = B at hcell ⊢
  go_enter Try.func54, Try.ntmps54
  go_wp2_with (go_at_call 45; refine (HC.out _ (by repeat (first | exact Below.refl _ _ | apply pw_below_drewN | apply below_alloc))).mono ?_; rintro e w1 ⟨v0_, rfl, ho, hb⟩; obtain ⟨A1, c1, rfl⟩ := Kd.R_slice ho)
  go_ret
  exact ⟨rfl, hb⟩
set_option maxHeartbeats 1000000 in
set_option maxRecDepth 100000 in
theorem impl_OnceOnly.calls (k : Nat) (A0 : Option Addr) (c0 : Nat) (l0 : List ByteArray) (r1 : List ByteArray) (r2 : Bool) (w : World) (hr0 : Kd.C Kd.string w A0 l0.length l0) (hc0 : l0.length ≤ c0) (h : impl_OnceOnly.f k l0 = some (r1, r2)) :
    Calls Try.prog 34 #[.slice A0 l0.length c0] w fun e w' => ∃ v0_ : Value, e = .returned (.tuple #[v0_, .bool r2]) ∧ Kd.R Kd.string 9 w' w.heap.size (fun _ => True) v0_ r1 ∧ Below w.heap.size w w' := by
  have HA := fun b hb => Aside0.mk (fun W' (hb' : Below w.heap.size w W') => impl_areTokens.calls k A0 c0 l0 b W' (Kd.C_below hr0 hb') hc0 hb)
  have hbel1 : Below w.heap.size w (w.alloc (.cells #[.slice A0 l0.length c0] 22)) := below_alloc (Below.refl _ _) _
  have hsz1 : w.heap.size < (w.alloc (.cells #[.slice A0 l0.length c0] 22)).heap.size := by simp
  have hcell1 : (w.alloc (.cells #[.slice A0 l0.length c0] 22)).cell? ⟨w.heap.size, 0, none⟩ = some (.slice A0 l0.length c0) := by simp
  unfold impl_OnceOnly.f at h
  cases hb : impl_areTokens.f k l0 with
  | none => rw [hb] at h; cases h
  | some b =>
    have HA1 := HA b hb
    clear HA
    rw [hb] at h
    cases b with
    | false =>
      obtain ⟨rfl, rfl⟩ : ([] : List ByteArray) = r1 ∧ false = r2 := by injection (Option.some.inj h) with h1 h2; exact ⟨h1, h2⟩
      clear h hb
      go_enter Try.func34, Try.ntmps34
      go_wp2_with (go_at_call 43; refine (HA1.out _ hbel1).mono ?_; rintro e w1 ⟨rfl, hb1⟩)
      go_ret2
      exact ⟨_, rfl, Kd.R_nil _ _ _ _ _, hbel1.trans (hb1.mono (by simp))⟩
    | true =>
      simp only [Option.bind_some, if_true] at h
      by_cases hl : l0.length < 17592186044416
      · rw [if_pos hl] at h
        cases hd : impl_distinct_string.f l0 with
        | none => rw [hd] at h; cases h
        | some d =>
          rw [hd] at h
          obtain ⟨rfl, rfl⟩ : (d.filter (fun g => !(impl_OnceOnly.more l0 g))) = r1 ∧ true = r2 := by injection (Option.some.inj h) with h1 h2; exact ⟨h1, h2⟩
          have HD := Aside0.mk (fun W' (hb' : Below w.heap.size w W') => impl_distinct_string.calls A0 c0 l0 d W' (Kd.C_below hr0 hb') hc0 hd)
          have eg : ∀ args w, (callFunc 54 args).run Try.prog w = .ok (.enter 54 args) w := enters_of Try.func54 (by kernel_rfl) rfl
          have HDel := Aside0.mk (fun (W : World) (base : Nat) (v : Value) (ho : Kd.R Kd.string 9 W base (fun _ => True) v d) (hlt : w.heap.size < base) (hbW : Below w.heap.size w W) (hcW : W.cell? ⟨w.heap.size, 0, none⟩ = some (.slice A0 l0.length c0)) =>
            GDel.del_one Try.laysD53 Kd.string rfl (.string ByteArray.empty) Try.zeroValue9 rfl (fun u hu => by simp [Value.cells] at hu; subst hu; rfl) (fun g => some (impl_OnceOnly.more l0 g)) (impl_OnceOnly.more l0) 54 #[.pointer (some ⟨w.heap.size, 0, none⟩)] eg 9 base (fun _ => True) v d W ho (fun _ _ => rfl)
              (fun W' x u b hg hx hK hp => by
                have hK' : [u] = [.string x] := hK
                obtain rfl : u = .string x := by injection hK'
                obtain rfl := Option.some.inj hp
                have hbW' : Below w.heap.size w W' := hbW.grown hg hbW.size (fun k_ hk => Nat.le_of_lt (Nat.lt_of_lt_of_le hlt (Kd.R_base ho k_ hk)))
                refine impl_OnceOnly.pred A0 c0 l0 w W' hr0 hc0 hl hbW' ?_ x
                have hlt2 : w.heap.size < W.heap.size := World.block_lt_of_cell? W _ hcW
                have hh := hg.block w.heap.size hlt2 (fun he => by have := Kd.R_base ho w.heap.size he.symm; omega)
                exact (World.cell?_of_block (a := ⟨w.heap.size, 0, none⟩) hh).trans hcW))
          clear h hb hd hr0
          go_enter Try.func34, Try.ntmps34
          go_wp2_with (first
            | (go_at_call 43; refine (HA1.out _ hbel1).mono ?_; rintro e w1 ⟨rfl, hb1⟩; have hc1 := (hb1.cell (p := ⟨w.heap.size, 0, none⟩) hsz1).trans hcell1)
            | (go_at_call 52; refine (HD.out _ (hbel1.trans (hb1.mono (Nat.le_of_lt hsz1)))).mono ?_; rintro e w2 ⟨v0_, rfl, ho, hb2⟩; have hc2 := (hb2.cell (p := ⟨w.heap.size, 0, none⟩) (Nat.lt_of_lt_of_le hsz1 hb1.size)).trans hc1)
            | (go_at_call 53; refine (HDel.out _ _ _ ho (Nat.lt_of_lt_of_le hsz1 hb1.size) ((hbel1.trans (hb1.mono (Nat.le_of_lt hsz1))).trans (hb2.mono (Nat.le_trans (Nat.le_of_lt hsz1) hb1.size))) hc2).mono ?_; rintro e w3 ⟨v1_, rfl, ho3, he3, hg3⟩))
          go_ret2
          refine ⟨_, rfl, Kd.R_lower ho3 (Nat.le_trans (Nat.le_of_lt hsz1) hb1.size), ?_⟩
          have hlt := Nat.lt_of_lt_of_le hsz1 hb1.size
          have hb12 := (hbel1.trans (hb1.mono (Nat.le_of_lt hsz1))).trans (hb2.mono (Nat.le_trans (Nat.le_of_lt hsz1) hb1.size))
          exact hb12.grown hg3 hb12.size (fun k_ hk => Nat.le_of_lt (Nat.lt_of_lt_of_le hlt (Kd.R_base ho k_ hk)))
      · rw [if_neg hl] at h
        cases h


end Go.Proofs.Ytfndkjklphajmaa.Q
