-- Written for the seat Ytgnijnlgbelifaa by a program of this session (wip/tool/gx.py) out of the translation. Lean checks it.
import Derived.Test.YtgnijnlgbelifaaQ0
import Derived.Test.YtgnijnlgbelifaaGPeel
import Derived.Test.YtgnijnlgbelifaaGCall
import Derived.Test.YtgnijnlgbelifaaWApart
import Derived.Test.YtgnijnlgbelifaaWFoot
import Derived.Test.YtgnijnlgbelifaaWKept
import Derived.Test.YtgnijnlgbelifaaWShare
import Derived.Test.YtgnijnlgbelifaaWN
import Derived.Test.YtgnijnlgbelifaaWRepsOne
namespace Go.Proofs.Ytgnijnlgbelifaa.Q
open Go.RowKit Go.Proofs.YtgnijnlgbelifaaW.PrintWords Go.Proofs.YtgnijnlgbelifaaW.PrintLast Go.Proofs.YtgnijnlgbelifaaW.PrintMore Go.Proofs.YtgnijnlgbelifaaW.GCall
attribute [local go_sem] max2_int min2_int max_two min_two max_three min_three max_four min_four   -- for this text's walks alone
set_option linter.unusedVariables false
set_option linter.unusedSimpArgs false

/-! ### laws_big: function 4 -/
def laws_big.f (l0 : List Int) (l1 : List Int) : Option (Bool) := if (l0.length : Int) > 1048576 then (some true) else (some (decide ((l1.length : Int) > (wrap64 (1048576 - (l0.length : Int))))))
set_option maxHeartbeats 3000000 in
set_option maxRecDepth 100000 in
theorem laws_big.calls (A0 : Option Addr) (c0 : Nat) (l0 : List Int) (A1 : Option Addr) (c1 : Nat) (l1 : List Int) (r : Bool) (w : World) (hr0 : Kd.C (Kd.int .u8) w A0 l0.length l0) (hc0 : l0.length ≤ c0) (hr1 : Kd.C (Kd.int .u8) w A1 l1.length l1) (hc1 : l1.length ≤ c1) (h : laws_big.f l0 l1 = some r) :
  Calls Try.prog 4 #[.slice A0 l0.length c0,.slice A1 l1.length c1] w fun e w' => e = .returned (.bool r) ∧ Drawn0 w w' := by
 have HR0 := Aside0.mk hr0
 have HC0 := Aside0.mk hc0
 clear hr0 hc0
 have HR1 := Aside0.mk hr1
 have HC1 := Aside0.mk hc1
 clear hr1 hc1
 have H : (if (l0.length : Int) > 1048576 then (some true) else (some (decide ((l1.length : Int) > (wrap64 (1048576 - (l0.length : Int))))))) = some r := h
 clear h
 by_cases c3 : (l0.length : Int) > 1048576
 ·rw [if_pos c3] at H
  have c3b0 : decide (1048576 < (l0.length : Int)) = true := decide_eq_true c3
  have c3b1 : decide (1048576 < l0.length) = true := decide_eq_true (by omega)
  clear c3
  obtain rfl := Option.some.inj H
  go_enter Try.func4,Try.ntmps4
  go_wp2
  go_ret
  exact ⟨by first|rfl|(simp;done)|(simp [*];done),by repeat (first|exact Drawn0.refl _|apply Drawn0.step)⟩
 rw [if_neg c3] at H
 have c3b0 : decide (1048576 < (l0.length : Int)) = false := decide_eq_false c3
 have c3b1 : decide (1048576 < l0.length) = false := decide_eq_false (by omega)
 clear c3
 obtain rfl := Option.some.inj H
 go_enter Try.func4,Try.ntmps4
 go_wp2
 go_ret
 exact ⟨by first|rfl|(simp;done)|(simp [*];done),by repeat (first|exact Drawn0.refl _|apply Drawn0.step)⟩

/-- A state of type 49 at block g of W; what its slices lead to came in by w0. -/
def IsS49 (w0 W : World) (g : Nat) (f0 : List Int) (f1 : Int) (f2 : Int) : Prop := ∃ A0 c0,W.heap[g]? = some (.cells #[.slice A0 f0.length c0,.int .i64 f1,.int .u64 f2] 49 (0,0)) ∧ w0.heap.size ≤ g ∧ Kd.C (Kd.int .u8) w0 A0 f0.length f0
theorem IsS49.grown {w0 W : World} {g : Nat} {f0 : List Int} {f1 : Int} {f2 : Int} {W1 : World} {row : Option Nat} (h : IsS49 w0 W g f0 f1 f2) (hw : W.grownBy W1 row) (hne : some g ≠ row) : IsS49 w0 W1 g f0 f1 f2 := by
 obtain ⟨A0,c0,hb,hg,hr0⟩ := h
 exact ⟨A0,c0,blk_grown hb hw hne,hg,hr0⟩
theorem IsS49.own_neN {w0 W : World} {g : Nat} {f0 : List Int} {f1 : Int} {f2 : Int} {α : Type} {d : Kd α} {e : Nat} {base : Nat} {ok : Nat → Prop} {v : Value} {xs : List α} (h : IsS49 w0 W g f0 f1 f2) (ho : Kd.N d e W base ok v xs) (ht : e ≠ 49) : some g ≠ v.ownBlock := by
 obtain ⟨A0,c0,hb,hg,hr0⟩ := h
 exact Kd.N_ne ho hb ht
theorem IsS49.fresh {w0 W : World} {g : Nat} {f0 : List Int} {f1 : Int} {f2 : Int} (h : IsS49 w0 W g f0 f1 f2) : ∀ k,W.heap.size ≤ k → k ≠ g := by
 obtain ⟨A0,c0,hb,hg,hr0⟩ := h
 exact Kd.freshB hb
theorem IsS49.kept {w0 W : World} {g : Nat} {f0 : List Int} {f1 : Int} {f2 : Int} {W1 : World} {S : Nat → Prop} (h : IsS49 w0 W g f0 f1 f2) (hk : Kept W W1 S) (hne : ¬ S g) : IsS49 w0 W1 g f0 f1 f2 := by
 obtain ⟨A0,c0,hb,hg,hr0⟩ := h
 exact ⟨A0,c0,blk_kept hb hk hne,hg,hr0⟩
theorem IsS49.below {w0 W : World} {g : Nat} {f0 : List Int} {f1 : Int} {f2 : Int} {W1 : World} (h : IsS49 w0 W g f0 f1 f2) (hw : Below W.heap.size W W1) : IsS49 w0 W1 g f0 f1 f2 := h.grown (grown_of_below hw none) (by simp)
theorem IsS49.alloc {w0 W : World} {g : Nat} {f0 : List Int} {f1 : Int} {f2 : Int} (h : IsS49 w0 W g f0 f1 f2) (o : Obj) : IsS49 w0 (W.alloc o) g f0 f1 f2 := h.below (below_alloc (Below.refl _ _) o)
theorem IsS49.drewN {w0 W : World} {g : Nat} {f0 : List Int} {f1 : Int} {f2 : Int} (h : IsS49 w0 W g f0 f1 f2) (m : Nat) : IsS49 w0 (W.drewN m) g f0 f1 f2 := h
theorem IsS49.drew {w0 W : World} {g : Nat} {f0 : List Int} {f1 : Int} {f2 : Int} (h : IsS49 w0 W g f0 f1 f2) : IsS49 w0 W.drew g f0 f1 f2 := h
theorem IsS49.at_ {w0 W : World} {g : Nat} {f0 : List Int} {f1 : Int} {f2 : Int} {w' : World} {m : Nat} (hq : W.drewN m = w') (h : IsS49 w0 W g f0 f1 f2) : IsS49 w0 w' g f0 f1 f2 := by subst hq;exact IsS49.drewN h m
theorem IsS49.apart {w0 W : World} {g : Nat} {f0 : List Int} {f1 : Int} {f2 : Int} {α : Type} {d : Kd α} {e : Nat} {base : Nat} {ok : Nat → Prop} {v : Value} {xs : List α} (h : IsS49 w0 W g f0 f1 f2) (ho : d.R e W base ok v xs) (ht : ∀ q,q ∈ e :: d.E → q ≠ 49) : d.R e W base (fun k => ok k ∧ k ≠ g) v xs := by
 obtain ⟨A0,c0,hb,hg,hr0⟩ := h
 exact Kd.R_types ho hb ht
theorem IsS49.own_ne {w0 W : World} {g : Nat} {f0 : List Int} {f1 : Int} {f2 : Int} {α : Type} {d : Kd α} {e : Nat} {base : Nat} {ok : Nat → Prop} {v : Value} {xs : List α} (h : IsS49 w0 W g f0 f1 f2) (ho : d.R e W base ok v xs) (ht : e ≠ 49) : some g ≠ v.ownBlock := by
 obtain ⟨A0,c0,hb,hg,hr0⟩ := h
 exact Kd.R_ne ho hb ht
theorem IsS49.apartQ {w0 W : World} {g : Nat} {f0 : List Int} {f1 : Int} {f2 : Int} {α : Type} {d : Kd α} {e : Nat} {base : Nat} {ok : Nat → Prop} {v : Value} {xs : List α} (h : IsS49 w0 W g f0 f1 f2) (ho : d.Q e W base ok v xs) (ht : ∀ q,q ∈ e :: d.E → q ≠ 49) : d.Q e W base (fun k => ok k ∧ k ≠ g) v xs := by
 obtain ⟨A0,c0,hb,hg,hr0⟩ := h
 exact Kd.Q_types ho hb ht
theorem IsS49.own_neQ {w0 W : World} {g : Nat} {f0 : List Int} {f1 : Int} {f2 : Int} {α : Type} {d : Kd α} {e : Nat} {base : Nat} {ok : Nat → Prop} {v : Value} {xs : List α} (h : IsS49 w0 W g f0 f1 f2) (ho : d.Q e W base ok v xs) (ht : e ≠ 49) : some g ≠ v.ownBlock := by
 obtain ⟨A0,c0,hb,hg,hr0⟩ := h
 exact Kd.Q_ne ho hb ht
theorem IsS49.apartS {w0 W : World} {g : Nat} {f0 : List Int} {f1 : Int} {f2 : Int} {α : Type} {d : Kd α} {e : Nat} {base : Nat} {ok : Nat → Prop} {v : Value} {xs : List α} (h : IsS49 w0 W g f0 f1 f2) (ho : d.S e W base ok v xs) (ht : ∀ q,q ∈ e :: d.E → q ≠ 49) : d.S e W base (fun k => ok k ∧ k ≠ g) v xs := by
 obtain ⟨A0,c0,hb,hg,hr0⟩ := h
 exact Kd.S_types ho hb ht
theorem IsS49.own_neS {w0 W : World} {g : Nat} {f0 : List Int} {f1 : Int} {f2 : Int} {α : Type} {d : Kd α} {e : Nat} {base : Nat} {ok : Nat → Prop} {v : Value} {xs : List α} (h : IsS49 w0 W g f0 f1 f2) (ho : d.S e W base ok v xs) (ht : e ≠ 49) : some g ≠ v.ownBlock := by
 obtain ⟨A0,c0,hb,hg,hr0⟩ := h
 exact Kd.S_ne ho hb ht
theorem IsS49.lt {w0 W : World} {g : Nat} {f0 : List Int} {f1 : Int} {f2 : Int} (h : IsS49 w0 W g f0 f1 f2) : g < W.heap.size := by
 obtain ⟨A0,c0,hb,hg,hr0⟩ := h
 exact blk_lt hb
theorem IsS49.ge {w0 W : World} {g : Nat} {f0 : List Int} {f1 : Int} {f2 : Int} (h : IsS49 w0 W g f0 f1 f2) : w0.heap.size ≤ g := by
 obtain ⟨A0,c0,hb,hg,hr0⟩ := h
 exact hg
theorem IsS49.ne_blk {w0 W : World} {g : Nat} {f0 : List Int} {f1 : Int} {f2 : Int} {a : Nat} {cs : Array Value} {t : TypeId} {fr : Nat × Nat} (h : IsS49 w0 W g f0 f1 f2) (hb2 : W.heap[a]? = some (.cells cs t fr)) (ht : t ≠ 49) : g ≠ a := by
 obtain ⟨A0,c0,hb,hg,hr0⟩ := h
 rintro rfl
 rw [hb] at hb2
 injection hb2 with hb2
 injection hb2 with _ ht2
 exact ht ht2.symm
theorem IsS49.far {w0 W : World} {g : Nat} {f0 : List Int} {f1 : Int} {f2 : Int} {p : Addr} (h : IsS49 w0 W g f0 f1 f2) (hne : g ≠ p.block) (u : Value) : IsS49 w0 (W.setCell p u) g f0 f1 f2 := by
 obtain ⟨A0,c0,hb,hg,hr0⟩ := h
 exact ⟨A0,c0,blk_far hb hne u,hg,hr0⟩
theorem IsS49.farb {w0 W : World} {g : Nat} {f0 : List Int} {f1 : Int} {f2 : Int} {b j : Nat} {u : Value} (hne : g ≠ b) (h : IsS49 w0 W g f0 f1 f2) : IsS49 w0 (W.setCell ⟨b,j,none⟩ u) g f0 f1 f2 := IsS49.far (p := ⟨b,j,none⟩) h hne u
theorem cellS49_0 {W : World} {g : Nat} {A0 : Option Addr} {c0 : Nat} {f0 : List Int} {f1 : Int} {f2 : Int} (h : W.heap[g]? = some (.cells #[.slice A0 f0.length c0,.int .i64 f1,.int .u64 f2] 49 (0,0))) : W.cell? ⟨g,0,none⟩ = some (.slice A0 f0.length c0) := (blk_cell h 0).trans rfl
theorem cellS49_1 {W : World} {g : Nat} {A0 : Option Addr} {c0 : Nat} {f0 : List Int} {f1 : Int} {f2 : Int} (h : W.heap[g]? = some (.cells #[.slice A0 f0.length c0,.int .i64 f1,.int .u64 f2] 49 (0,0))) : W.cell? ⟨g,1,none⟩ = some (.int .i64 f1) := (blk_cell h 1).trans rfl
theorem IsS49.set_1 {w0 W : World} {g : Nat} {f0 : List Int} {f1 : Int} {f2 : Int} (h : IsS49 w0 W g f0 f1 f2) (x : Int) : IsS49 w0 (W.setCell ⟨g,1,none⟩ (.int .i64 x)) g f0 x f2 := by
 obtain ⟨A0,c0,hb,hg,hr0⟩ := h
 exact ⟨A0,c0,by simpa using blk_set hb 1 (.int .i64 x),hg,hr0⟩
theorem cellS49_2 {W : World} {g : Nat} {A0 : Option Addr} {c0 : Nat} {f0 : List Int} {f1 : Int} {f2 : Int} (h : W.heap[g]? = some (.cells #[.slice A0 f0.length c0,.int .i64 f1,.int .u64 f2] 49 (0,0))) : W.cell? ⟨g,2,none⟩ = some (.int .u64 f2) := (blk_cell h 2).trans rfl
theorem IsS49.set_2 {w0 W : World} {g : Nat} {f0 : List Int} {f1 : Int} {f2 : Int} (h : IsS49 w0 W g f0 f1 f2) (x : Int) : IsS49 w0 (W.setCell ⟨g,2,none⟩ (.int .u64 x)) g f0 f1 x := by
 obtain ⟨A0,c0,hb,hg,hr0⟩ := h
 exact ⟨A0,c0,by simpa using blk_set hb 2 (.int .u64 x),hg,hr0⟩
theorem IsS49.new (w0 W : World) (A0 : Option Addr) (c0 : Nat) (f0 : List Int) (f1 : Int) (f2 : Int) (hB : Below w0.heap.size w0 W) (hr0 : Kd.C (Kd.int .u8) w0 A0 f0.length f0) : IsS49 w0 (W.alloc (.cells #[.slice A0 f0.length c0,.int .i64 f1,.int .u64 f2] 49)) W.heap.size f0 f1 f2 := ⟨A0,c0,by simpa using heap_alloc_new W _,hB.size,hr0⟩
theorem zsA {w0 W : World} {g : Nat} {f0 : List Int} {f1 : Int} {f2 : Int} (h : IsS49 w0 W g f0 f1 f2) (o : Obj) : IsS49 w0 (W.alloc o) g f0 f1 f2 := IsS49.alloc h o
theorem zsB {w0 W : World} {g : Nat} {f0 : List Int} {f1 : Int} {f2 : Int} (h : IsS49 w0 W g f0 f1 f2) (m : Nat) : IsS49 w0 (W.drewN m) g f0 f1 f2 := IsS49.drewN h m
theorem zsC {w0 W : World} {g : Nat} {f0 : List Int} {f1 : Int} {f2 : Int} (h : IsS49 w0 W g f0 f1 f2) : IsS49 w0 W.drew g f0 f1 f2 := IsS49.drew h
theorem zsD {w0 W : World} {g : Nat} {f0 : List Int} {f1 : Int} {f2 : Int} (h : IsS49 w0 W g f0 f1 f2) (x : Int) : IsS49 w0 (W.setCell ⟨g,1,none⟩ (.int .i64 x)) g f0 x f2 := IsS49.set_1 h x
theorem zsE {w0 W : World} {g : Nat} {f0 : List Int} {f1 : Int} {f2 : Int} (h : IsS49 w0 W g f0 f1 f2) (x : Int) : IsS49 w0 (W.setCell ⟨g,2,none⟩ (.int .u64 x)) g f0 f1 x := IsS49.set_2 h x
theorem zsF {w0 W : World} {g : Nat} {f0 : List Int} {f1 : Int} {f2 : Int} {b j : Nat} {u : Value} (hne : g ≠ b) (h : IsS49 w0 W g f0 f1 f2) : IsS49 w0 (W.setCell ⟨b,j,none⟩ u) g f0 f1 f2 := IsS49.farb hne h
theorem ZS {w0 W : World} {g : Nat} {f0 : List Int} {f1 : Int} {f2 : Int} {w_ : World} {f0' : List Int} {f1' : Int} {f2' : Int} (h : Aside0 (IsS49 w0 W g f0 f1 f2)) (e_ : IsS49 w0 W g f0 f1 f2 → IsS49 w0 w_ g f0' f1' f2' := by intro h_;repeat (first|(with_reducible first|exact h_|apply zsA|apply zsB|apply zsC|apply zsD|apply zsE|apply zsF (Aside0.out (by assumption)))|exact h_)) : IsS49 w0 w_ g f0' f1' f2' := e_ h.out

/-! ### spec_l1Cur_next: function 66 -/
def spec_l1Cur_next.f (s0_0 : List Int) (s0_1 : Int) (s0_2 : Int) : Option (Int × Int × Int) := if s0_1 < (s0_0.length : Int) then (if 0 ≤ s0_1 then (if (wrap64 (s0_1 + 1)) ≤ (s0_0.length : Int) then (some (wrap64 (rd s0_0 s0_1),wrap64 (s0_1 + 1),IntKind.u64.wrap ((IntKind.u64.wrap ((IntKind.u64.wrap (s0_2 * 6364136223846793005)) + (IntKind.u64.wrap (wrap64 (rd s0_0 s0_1))))) + 1442695040888963407))) else (some (wrap64 (Go.bits .and .u64 ((IntKind.u64.wrap ((IntKind.u64.wrap ((IntKind.u64.wrap (s0_2 * 6364136223846793005)) + (IntKind.u64.wrap (wrap64 (rd s0_0 s0_1))))) + 1442695040888963407)) / 1099511627776) 255),wrap64 (s0_1 + 1),IntKind.u64.wrap ((IntKind.u64.wrap ((IntKind.u64.wrap (s0_2 * 6364136223846793005)) + (IntKind.u64.wrap (wrap64 (rd s0_0 s0_1))))) + 1442695040888963407)))) else (none)) else (if (wrap64 (s0_1 + 1)) ≤ (s0_0.length : Int) then (some (0,wrap64 (s0_1 + 1),IntKind.u64.wrap ((IntKind.u64.wrap ((IntKind.u64.wrap (s0_2 * 6364136223846793005)))) + 1442695040888963407))) else (some (wrap64 (Go.bits .and .u64 ((IntKind.u64.wrap ((IntKind.u64.wrap ((IntKind.u64.wrap (s0_2 * 6364136223846793005)))) + 1442695040888963407)) / 1099511627776) 255),wrap64 (s0_1 + 1),IntKind.u64.wrap ((IntKind.u64.wrap ((IntKind.u64.wrap (s0_2 * 6364136223846793005)))) + 1442695040888963407))))
set_option maxHeartbeats 3000000 in
set_option maxRecDepth 100000 in
theorem spec_l1Cur_next.calls (g : Nat) (s0_0 : List Int) (s0_1 : Int) (s0_2 : Int) (r1 : Int) (r2 : Int) (r3 : Int) (w0 w : World) (hI : IsS49 w0 w g s0_0 s0_1 s0_2) (hB : Below w0.heap.size w0 w) (h : spec_l1Cur_next.f s0_0 s0_1 s0_2 = some (r1,r2,r3)) :
  Calls Try.prog 66 #[.pointer (some ⟨g,0,none⟩)] w fun e w' => e = .returned (.int .i64 r1) ∧ IsS49 w0 w' g s0_0 r2 r3 ∧ Below w0.heap.size w0 w' ∧ KeepBut w w' g none := by
 have HI0 := Aside0.mk hI
 have HK := Aside0.mk (KeepBut.refl w g none)
 have HL := Aside0.mk hB.size
 clear hI
 have HW0 := Aside0.mk hB.size
 have HB := Aside0.mk hB
 clear hB
 have H : (if s0_1 < (s0_0.length : Int) then (if 0 ≤ s0_1 then (if (wrap64 (s0_1 + 1)) ≤ (s0_0.length : Int) then (some (wrap64 (rd s0_0 s0_1),wrap64 (s0_1 + 1),IntKind.u64.wrap ((IntKind.u64.wrap ((IntKind.u64.wrap (s0_2 * 6364136223846793005)) + (IntKind.u64.wrap (wrap64 (rd s0_0 s0_1))))) + 1442695040888963407))) else (some (wrap64 (Go.bits .and .u64 ((IntKind.u64.wrap ((IntKind.u64.wrap ((IntKind.u64.wrap (s0_2 * 6364136223846793005)) + (IntKind.u64.wrap (wrap64 (rd s0_0 s0_1))))) + 1442695040888963407)) / 1099511627776) 255),wrap64 (s0_1 + 1),IntKind.u64.wrap ((IntKind.u64.wrap ((IntKind.u64.wrap (s0_2 * 6364136223846793005)) + (IntKind.u64.wrap (wrap64 (rd s0_0 s0_1))))) + 1442695040888963407)))) else (none)) else (if (wrap64 (s0_1 + 1)) ≤ (s0_0.length : Int) then (some (0,wrap64 (s0_1 + 1),IntKind.u64.wrap ((IntKind.u64.wrap ((IntKind.u64.wrap (s0_2 * 6364136223846793005)))) + 1442695040888963407))) else (some (wrap64 (Go.bits .and .u64 ((IntKind.u64.wrap ((IntKind.u64.wrap ((IntKind.u64.wrap (s0_2 * 6364136223846793005)))) + 1442695040888963407)) / 1099511627776) 255),wrap64 (s0_1 + 1),IntKind.u64.wrap ((IntKind.u64.wrap ((IntKind.u64.wrap (s0_2 * 6364136223846793005)))) + 1442695040888963407))))) = some (r1,r2,r3) := h
 clear h
 by_cases c2 : s0_1 < (s0_0.length : Int);rotate_left
 ·rw [if_neg c2] at H
  have c2b0 : decide (s0_1 < (s0_0.length : Int)) = false := decide_eq_false c2
  clear c2
  by_cases c7 : (wrap64 (s0_1 + 1)) ≤ (s0_0.length : Int)
  ·rw [if_pos c7] at H
   have c7b0 := decide_eq_true c7
   clear c7
   simp only [Option.some.injEq,Prod.mk.injEq] at H
   obtain ⟨rfl,rfl,rfl⟩ := H
   obtain ⟨ASz8_0,cSz8_0,HGz8,hgz8,HSz8_0⟩ := HI0.out
   have hcz8_0 := cellS49_0 HGz8
   have hcz8_1 := cellS49_1 HGz8
   have hcz8_2 := cellS49_2 HGz8
   have hfz8_1 := blk_frozen HGz8 1
   have hfz8_2 := blk_frozen HGz8 2
   clear HGz8 hgz8
   go_enter Try.func66,Try.ntmps66
   go_wp2
   repeat (go_quiet (fail);try go_wp2)
   go_ret
   exact ⟨by first|rfl|(simp [*,errW_none,errW_some] <;> rfl),ZS HI0,by repeat (first|(with_reducible first|exact HB.out|apply zbA|apply zbB|apply zbC|refine below_set ?_ (IsS49.ge HI0.out))|exact HB.out),ZW HK⟩
  rw [if_neg c7] at H
  have c7b0 := decide_eq_false c7
  clear c7
  simp only [Option.some.injEq,Prod.mk.injEq] at H
  obtain ⟨rfl,rfl,rfl⟩ := H
  obtain ⟨ASz9_0,cSz9_0,HGz9,hgz9,HSz9_0⟩ := HI0.out
  have hcz9_0 := cellS49_0 HGz9
  have hcz9_1 := cellS49_1 HGz9
  have hcz9_2 := cellS49_2 HGz9
  have hfz9_1 := blk_frozen HGz9 1
  have hfz9_2 := blk_frozen HGz9 2
  clear HGz9 hgz9
  go_enter Try.func66,Try.ntmps66
  go_wp2
  repeat (go_quiet (fail);try go_wp2)
  go_ret
  exact ⟨by first|rfl|(simp [*,errW_none,errW_some] <;> rfl),ZS HI0,by repeat (first|(with_reducible first|exact HB.out|apply zbA|apply zbB|apply zbC|refine below_set ?_ (IsS49.ge HI0.out))|exact HB.out),ZW HK⟩

 rw [if_pos c2] at H
 have c2b0 : decide (s0_1 < (s0_0.length : Int)) = true := decide_eq_true c2
 clear c2
 by_cases c3 : 0 ≤ s0_1;rotate_left
 ·rw [if_neg c3] at H
  exact absurd H (by simp)
 rw [if_pos c3] at H
 have c3b0 : decide (0 ≤ s0_1) = true := decide_eq_true c3
 clear c3
 by_cases c4 : (wrap64 (s0_1 + 1)) ≤ (s0_0.length : Int)
 ·rw [if_pos c4] at H
  have c4b0 := decide_eq_true c4
  clear c4
  simp only [Option.some.injEq,Prod.mk.injEq] at H
  obtain ⟨rfl,rfl,rfl⟩ := H
  obtain ⟨ASz5_0,cSz5_0,HGz5,hgz5,HSz5_0⟩ := HI0.out
  have hcz5_0 := cellS49_0 HGz5
  have hcz5_1 := cellS49_1 HGz5
  have hcz5_2 := cellS49_2 HGz5
  have hfz5_1 := blk_frozen HGz5 1
  have hfz5_2 := blk_frozen HGz5 2
  clear HGz5 hgz5
  have p101 : 0 ≤ (s0_1 : Int) := ZD
  have q101 : s0_1 < (s0_0.length : Int) := ZD
  obtain ⟨ad101,e101,hx101_0⟩ := Kd.at_int HSz5_0 s0_1 p101 q101
  cases e101
  replace hx101_0 := pw_cell_below HB.out hx101_0
  replace p101 := eq_true p101
  replace q101 := eq_true q101
  go_enter Try.func66,Try.ntmps66
  go_wp2
  repeat (go_quiet (fail);try go_wp2)
  go_ret
  exact ⟨by first|rfl|(simp [*,errW_none,errW_some] <;> rfl),ZS HI0,by repeat (first|(with_reducible first|exact HB.out|apply zbA|apply zbB|apply zbC|refine below_set ?_ (IsS49.ge HI0.out))|exact HB.out),ZW HK⟩
 rw [if_neg c4] at H
 have c4b0 := decide_eq_false c4
 clear c4
 simp only [Option.some.injEq,Prod.mk.injEq] at H
 obtain ⟨rfl,rfl,rfl⟩ := H
 obtain ⟨ASz6_0,cSz6_0,HGz6,hgz6,HSz6_0⟩ := HI0.out
 have hcz6_0 := cellS49_0 HGz6
 have hcz6_1 := cellS49_1 HGz6
 have hcz6_2 := cellS49_2 HGz6
 have hfz6_1 := blk_frozen HGz6 1
 have hfz6_2 := blk_frozen HGz6 2
 clear HGz6 hgz6
 have p101 : 0 ≤ (s0_1 : Int) := ZD
 have q101 : s0_1 < (s0_0.length : Int) := ZD
 obtain ⟨ad101,e101,hx101_0⟩ := Kd.at_int HSz6_0 s0_1 p101 q101
 cases e101
 replace hx101_0 := pw_cell_below HB.out hx101_0
 replace p101 := eq_true p101
 replace q101 := eq_true q101
 go_enter Try.func66,Try.ntmps66
 go_wp2
 repeat (go_quiet (fail);try go_wp2)
 go_ret
 exact ⟨by first|rfl|(simp [*,errW_none,errW_some] <;> rfl),ZS HI0,by repeat (first|(with_reducible first|exact HB.out|apply zbA|apply zbB|apply zbC|refine below_set ?_ (IsS49.ge HI0.out))|exact HB.out),ZW HK⟩
/-! ### spec_l1Cur_pick: function 42 -/
def spec_l1Cur_pick.f (s0_0 : List Int) (s0_1 : Int) (s0_2 : Int) (a1 : Int) : Option (Int × Int × Int) := if a1 ≤ 1 then (some (0,s0_1,s0_2)) else ((spec_l1Cur_next.f s0_0 s0_1 s0_2).bind fun bt101 => (if a1 > 200 then ((spec_l1Cur_next.f s0_0 bt101.2.1 bt101.2.2).bind fun bt104 => (if a1 = 0 then (none) else (some (Int.tmod (wrap64 ((wrap64 (bt101.1 * 256)) + bt104.1)) a1,bt104.2.1,bt104.2.2)))) else (if a1 = 0 then (none) else (some (Int.tmod bt101.1 a1,bt101.2.1,bt101.2.2)))))
set_option maxHeartbeats 3000000 in
set_option maxRecDepth 100000 in
theorem spec_l1Cur_pick.calls (g : Nat) (s0_0 : List Int) (s0_1 : Int) (s0_2 : Int) (a1 : Int) (r1 : Int) (r2 : Int) (r3 : Int) (w0 w : World) (hI : IsS49 w0 w g s0_0 s0_1 s0_2) (hB : Below w0.heap.size w0 w) (h : spec_l1Cur_pick.f s0_0 s0_1 s0_2 a1 = some (r1,r2,r3)) :
  Calls Try.prog 42 #[.pointer (some ⟨g,0,none⟩),.int .i64 a1] w fun e w' => e = .returned (.int .i64 r1) ∧ IsS49 w0 w' g s0_0 r2 r3 ∧ Below w0.heap.size w0 w' ∧ KeepBut w w' g none := by
 have HI0 := Aside0.mk hI
 have HK := Aside0.mk (KeepBut.refl w g none)
 have HL := Aside0.mk hB.size
 clear hI
 have HW0 := Aside0.mk hB.size
 have HB := Aside0.mk hB
 clear hB
 have H : (if a1 ≤ 1 then (some (0,s0_1,s0_2)) else ((spec_l1Cur_next.f s0_0 s0_1 s0_2).bind fun bt101 => (if a1 > 200 then ((spec_l1Cur_next.f s0_0 bt101.2.1 bt101.2.2).bind fun bt104 => (if a1 = 0 then (none) else (some (Int.tmod (wrap64 ((wrap64 (bt101.1 * 256)) + bt104.1)) a1,bt104.2.1,bt104.2.2)))) else (if a1 = 0 then (none) else (some (Int.tmod bt101.1 a1,bt101.2.1,bt101.2.2)))))) = some (r1,r2,r3) := h
 clear h
 by_cases c3 : a1 ≤ 1
 ·rw [if_pos c3] at H
  have c3b0 := decide_eq_true c3
  clear c3
  simp only [Option.some.injEq,Prod.mk.injEq] at H
  obtain ⟨rfl,rfl,rfl⟩ := H
  go_enter Try.func42,Try.ntmps42
  go_wp2
  go_ret
  exact ⟨by first|rfl|(simp [*,errW_none,errW_some] <;> rfl),ZS HI0,by repeat (first|(with_reducible first|exact HB.out|apply zbA|apply zbB|apply zbC|refine below_set ?_ (IsS49.ge HI0.out))|exact HB.out),ZW HK⟩
 rw [if_neg c3] at H
 have c3b0 := decide_eq_false c3
 clear c3
 replace H := Option.bind_eq_some_iff.mp H
 obtain ⟨⟨t101,t102,t103⟩,A40,H⟩ := H
 try dsimp only at H
 have A4 := Aside0.mk A40
 clear A40
 by_cases c5 : a1 > 200;rotate_left
 ·rw [if_neg c5] at H
  have c5b0 : decide (200 < a1) = false := decide_eq_false c5
  clear c5
  by_cases c10 : a1 = 0
  ·rw [if_pos c10] at H
   exact absurd H (by simp)
  rw [if_neg c10] at H
  have c10b0 : (a1 == 0) = false := beq_eq_false_iff_ne.mpr c10
  have c10b1 : (a1 != 0) = true := bne_iff_ne.mpr c10
  simp only [Option.some.injEq,Prod.mk.injEq] at H
  obtain ⟨rfl,rfl,rfl⟩ := H
  go_enter Try.func42,Try.ntmps42
  go_wp2_with (first|((with_reducible refine gate_callee (f := 66) rfl ?_);refine goesM_ (some 9) Try.func66 #[.pointer (some ⟨g,0,none⟩)] ?_;(with_reducible refine (spec_l1Cur_next.calls g s0_0 s0_1 s0_2 t101 t102 t103 w0 _ ?side1 ?side2 A4.out).mono ?_);(case side1 => repeat (first|(with_reducible first|exact HI0.out|apply zsA|apply zsB|apply zsC|apply zsD|apply zsE)|exact HI0.out));(case side2 => repeat (first|(with_reducible first|exact HB.out|apply zbA|apply zbB|apply zbC|refine below_set ?_ (IsS49.ge HI0.out))|exact HB.out));rintro e w11 ⟨rfl,hi,hb,hk⟩;refine ⟨_,rfl,?_⟩;replace HK := Aside0.mk (KeepBut.trans (ZW HK) hk (.inl rfl));replace HB := Aside0.mk (hb);replace HI0 := Aside0.mk (hi);(try clear hb)))
  go_ret
  exact ⟨by first|rfl|(simp [*,errW_none,errW_some] <;> rfl),ZS HI0,by repeat (first|(with_reducible first|exact HB.out|apply zbA|apply zbB|apply zbC|refine below_set ?_ (IsS49.ge HI0.out))|exact HB.out),ZW HK⟩

 rw [if_pos c5] at H
 have c5b0 : decide (200 < a1) = true := decide_eq_true c5
 clear c5
 replace H := Option.bind_eq_some_iff.mp H
 obtain ⟨⟨t104,t105,t106⟩,A60,H⟩ := H
 try dsimp only at H
 have A6 := Aside0.mk A60
 clear A60
 by_cases c7 : a1 = 0
 ·rw [if_pos c7] at H
  exact absurd H (by simp)
 rw [if_neg c7] at H
 have c7b0 : (a1 == 0) = false := beq_eq_false_iff_ne.mpr c7
 have c7b1 : (a1 != 0) = true := bne_iff_ne.mpr c7
 simp only [Option.some.injEq,Prod.mk.injEq] at H
 obtain ⟨rfl,rfl,rfl⟩ := H
 go_enter Try.func42,Try.ntmps42
 go_wp2_with (first|((with_reducible refine gate_callee (f := 66) rfl ?_);refine goesM_ (some 9) Try.func66 #[.pointer (some ⟨g,0,none⟩)] ?_;(with_reducible refine (spec_l1Cur_next.calls g s0_0 s0_1 s0_2 t101 t102 t103 w0 _ ?side1 ?side2 A4.out).mono ?_);(case side1 => repeat (first|(with_reducible first|exact HI0.out|apply zsA|apply zsB|apply zsC|apply zsD|apply zsE)|exact HI0.out));(case side2 => repeat (first|(with_reducible first|exact HB.out|apply zbA|apply zbB|apply zbC|refine below_set ?_ (IsS49.ge HI0.out))|exact HB.out));rintro e w8 ⟨rfl,hi,hb,hk⟩;refine ⟨_,rfl,?_⟩;replace HK := Aside0.mk (KeepBut.trans (ZW HK) hk (.inl rfl));replace HB := Aside0.mk (hb);replace HI0 := Aside0.mk (hi);(try clear hb))|((with_reducible refine gate_callee (f := 66) rfl ?_);refine goesM_ (some 15) Try.func66 #[.pointer (some ⟨g,0,none⟩)] ?_;(with_reducible refine (spec_l1Cur_next.calls g s0_0 t102 t103 t104 t105 t106 w0 _ ?side1 ?side2 A6.out).mono ?_);(case side1 => repeat (first|(with_reducible first|exact HI0.out|apply zsA|apply zsB|apply zsC|apply zsD|apply zsE)|exact HI0.out));(case side2 => repeat (first|(with_reducible first|exact HB.out|apply zbA|apply zbB|apply zbC|refine below_set ?_ (IsS49.ge HI0.out))|exact HB.out));rintro e w9 ⟨rfl,hi,hb,hk⟩;refine ⟨_,rfl,?_⟩;replace HK := Aside0.mk (KeepBut.trans (ZW HK) hk (.inl rfl));replace HB := Aside0.mk (hb);replace HI0 := Aside0.mk (hi);(try clear hb)))
 go_ret
 exact ⟨by first|rfl|(simp [*,errW_none,errW_some] <;> rfl),ZS HI0,by repeat (first|(with_reducible first|exact HB.out|apply zbA|apply zbB|apply zbC|refine below_set ?_ (IsS49.ge HI0.out))|exact HB.out),ZW HK⟩
/-! ### spec_l1Cur_among: function 22 -/
def spec_l1Cur_among.f (s0_0 : List Int) (s0_1 : Int) (s0_2 : Int) (l1 : List Int) : Option (Int × Int × Int) := (spec_l1Cur_pick.f s0_0 s0_1 s0_2 (l1.length : Int)).bind fun bt101 => (if 0 ≤ bt101.1 then (if bt101.1 < (l1.length : Int) then (some (rd l1 bt101.1,bt101.2.1,bt101.2.2)) else (none)) else (none))
set_option maxHeartbeats 3000000 in
set_option maxRecDepth 100000 in
theorem spec_l1Cur_among.calls (g : Nat) (s0_0 : List Int) (s0_1 : Int) (s0_2 : Int) (A1 : Option Addr) (c1 : Nat) (l1 : List Int) (r1 : Int) (r2 : Int) (r3 : Int) (w0 w : World) (hI : IsS49 w0 w g s0_0 s0_1 s0_2) (hB : Below w0.heap.size w0 w) (hr1 : Kd.C (Kd.int .i64) w A1 l1.length l1) (hc1 : l1.length ≤ c1) (hf1 : ∀ ad,A1 = some ad → 0 < l1.length → ad.block ≠ g) (h : spec_l1Cur_among.f s0_0 s0_1 s0_2 l1 = some (r1,r2,r3)) :
  Calls Try.prog 22 #[.pointer (some ⟨g,0,none⟩),.slice A1 l1.length c1] w fun e w' => e = .returned (.int .i64 r1) ∧ IsS49 w0 w' g s0_0 r2 r3 ∧ Below w0.heap.size w0 w' ∧ KeepBut w w' g none := by
 have HR1 := Aside0.mk hr1
 have HC1 := Aside0.mk hc1
 clear hr1 hc1
 have HI0 := Aside0.mk hI
 have HK := Aside0.mk (KeepBut.refl w g none)
 have HL := Aside0.mk hB.size
 clear hI
 have HW0 := Aside0.mk hB.size
 have HB := Aside0.mk hB
 clear hB
 have H : ((spec_l1Cur_pick.f s0_0 s0_1 s0_2 (l1.length : Int)).bind fun bt101 => (if 0 ≤ bt101.1 then (if bt101.1 < (l1.length : Int) then (some (rd l1 bt101.1,bt101.2.1,bt101.2.2)) else (none)) else (none))) = some (r1,r2,r3) := h
 clear h
 replace H := Option.bind_eq_some_iff.mp H
 obtain ⟨⟨t101,t102,t103⟩,A30,H⟩ := H
 try dsimp only at H
 have A3 := Aside0.mk A30
 clear A30
 by_cases c4 : 0 ≤ t101;rotate_left
 ·rw [if_neg c4] at H
  exact absurd H (by simp)

 rw [if_pos c4] at H
 have c4b0 : decide (0 ≤ t101) = true := decide_eq_true c4
 clear c4
 by_cases c5 : t101 < (l1.length : Int);rotate_left
 ·rw [if_neg c5] at H
  exact absurd H (by simp)
 rw [if_pos c5] at H
 have c5b0 : decide (t101 < (l1.length : Int)) = true := decide_eq_true c5
 clear c5
 simp only [Option.some.injEq,Prod.mk.injEq] at H
 obtain ⟨rfl,rfl,rfl⟩ := H
 go_enter Try.func22,Try.ntmps22
 go_wp2_with (first|((with_reducible refine gate_callee (f := 42) rfl ?_);refine goesM_ (some 9) Try.func42 #[.pointer (some ⟨g,0,none⟩),.int .i64 (l1.length : Int)] ?_;(with_reducible refine (spec_l1Cur_pick.calls g s0_0 s0_1 s0_2 (l1.length : Int) t101 t102 t103 w0 _ ?side1 ?side2 A3.out).mono ?_);(case side1 => repeat (first|(with_reducible first|exact HI0.out|apply zsA|apply zsB|apply zsC|apply zsD|apply zsE)|exact HI0.out));(case side2 => repeat (first|(with_reducible first|exact HB.out|apply zbA|apply zbB|apply zbC|refine below_set ?_ (IsS49.ge HI0.out))|exact HB.out));rintro e w6 ⟨rfl,hi,hb,hk⟩;refine ⟨_,rfl,?_⟩;replace HK := Aside0.mk (KeepBut.trans (ZW HK) hk (.inl rfl));replace HB := Aside0.mk (hb);replace HI0 := Aside0.mk (hi);(try clear hb);have p104 : 0 ≤ (t101 : Int) := ZD;have q104 : t101 < (l1.length : Int) := ZD;obtain ⟨ad104,e104,hx104_0⟩ := Kd.at_int HR1.out t101 p104 q104;cases e104;replace hx104_0 := keep_cell HK.out hx104_0 (by first|(rw [add_block];exact hf1 _ rfl (by omega))|exact hf1 _ rfl (by omega)|exact hf1 ad104 rfl (by omega));replace p104 := eq_true p104;replace q104 := eq_true q104))
 go_ret
 exact ⟨by first|rfl|(simp [*,errW_none,errW_some] <;> rfl),ZS HI0,by repeat (first|(with_reducible first|exact HB.out|apply zbA|apply zbB|apply zbC|refine below_set ?_ (IsS49.ge HI0.out))|exact HB.out),ZW HK⟩
/-! ### spec_l1Put: function 43 -/
def spec_l1Put.l0 : Nat → List Int → Int → Int → Option (List Int)
 | 0,_,_,_ => none
 | k + 1,x0,x1,x5 => if x5 < (x0.length : Int) then (if 0 ≤ x5 then (if (rd x0 x5) < x1 then (spec_l1Put.l0 k x0 x1 (wrap64 (x5 + 1))) else (if (rd x0 x5) = x1 then (some x0) else ((some (([] : List Int) : List Int)).bind fun y103 => (if x5 ≤ (x0.length : Int) then ((some (x0.take (x5 : Int).toNat : List Int)).bind fun y106 => (if y103.length + y106.length < 17592186044416 then ((some (y103 ++ y106 : List Int)).bind fun y111 => (if y111.length < 17592186044416 then ((some (y111 ++ [x1] : List Int)).bind fun y114 => ((some (x0.drop (x5 : Int).toNat : List Int)).bind fun y117 => (if y114.length + y117.length < 17592186044416 then (some (y114 ++ y117)) else (none)))) else (none))) else (none))) else (none))))) else (none)) else ((some (([] : List Int) : List Int)).bind fun y125 => (if 0 ≤ x5 then (if x5 ≤ (x0.length : Int) then ((some (x0.take (x5 : Int).toNat : List Int)).bind fun y128 => (if y125.length + y128.length < 17592186044416 then ((some (y125 ++ y128 : List Int)).bind fun y133 => (if y133.length < 17592186044416 then ((some (y133 ++ [x1] : List Int)).bind fun y136 => ((some (x0.drop (x5 : Int).toNat : List Int)).bind fun y139 => (if y136.length + y139.length < 17592186044416 then (some (y136 ++ y139)) else (none)))) else (none))) else (none))) else (none)) else (none)))
def spec_l1Put.f (k : Nat) (l0 : List Int) (a1 : Int) : Option (List Int) := spec_l1Put.l0 k l0 a1 0
theorem spec_l1Put.mono_l : ∀ k,(∀ y0 y1 y2,LeO (spec_l1Put.l0 k y0 y1 y2) (spec_l1Put.l0 (k + 1) y0 y1 y2))
 | 0 => fun _ _ _ r h => by simp [spec_l1Put.l0] at h
 | k + 1 => by
  have ih0 := spec_l1Put.mono_l k
  intro y0 y1 y2
  unfold spec_l1Put.l0
  with_reducible repeat' first|apply ih0|apply LeO.refl|apply LeO.none|refine LeO.ite ?_ ?_|refine LeO.bind ?_ (fun _ => ?_)
theorem spec_l1Put.mono : ∀ a0 a1 k,LeO (spec_l1Put.f k a0 a1) (spec_l1Put.f (k + 1) a0 a1) := by
 intro a0 a1 k
 have ih0 := spec_l1Put.mono_l k
 unfold spec_l1Put.f
 with_reducible repeat' first|apply ih0|apply LeO.refl|apply LeO.none|refine LeO.ite ?_ ?_|refine LeO.bind ?_ (fun _ => ?_)
set_option maxHeartbeats 3000000 in
set_option maxRecDepth 100000 in
theorem spec_l1Put.calls (k : Nat) (P0_ : Nat → Prop) (A0 : Option Addr) (c0 : Nat) (l0 : List Int) (a1 : Int) (r : List Int) (w : World) (hs0 : Kd.V (Kd.int .i64) 3 w w.heap.size (fun k_ => P0_ k_) (.slice A0 l0.length c0) l0) (h : spec_l1Put.f k l0 a1 = some r) :
  Calls Try.prog 43 #[.slice A0 l0.length c0,.int .i64 a1] w fun e w' => ∃ v0_ : Value,e = .returned (v0_) ∧ Kd.V (Kd.int .i64) 3 w' w.heap.size (fun k_ => (P0_ k_ ∨ w.heap.size ≤ k_)) v0_ r ∧ Below w.heap.size w w' := by
 have HO0 := Aside0.mk (show Kd.V (Kd.int .i64) 3 w w.heap.size (fun k_ => (P0_ k_ ∨ w.heap.size ≤ k_)) (.slice A0 l0.length c0) l0 from Kd.V_mono hs0 (fun k_ hk => .inl hk))
 have HB := Aside0.mk (Below.refl w.heap.size w)
 have H : (spec_l1Put.l0 k l0 a1 0) = some r := h
 clear h
 have H' := Aside0.mk H
 clear H
 go_enter Try.func43,Try.ntmps43
 go_wp2
 go_loopg [5] k (fun kq v5 w' => ∃ (x5_1 : Int),v5 = .int .i64 x5_1 ∧ Aside0 (spec_l1Put.l0 kq l0 a1 x5_1 = some r) ∧ Aside0 (kq ≤ k) ∧ Aside0 (Kd.V (Kd.int .i64) 3 w' w.heap.size (fun k_ => (P0_ k_ ∨ w.heap.size ≤ k_)) (.slice A0 l0.length c0) l0) ∧ Aside0 (Below w.heap.size w w'))
 case atStart => exact ⟨(0),(by first|rfl|(simp;done)|(simp [*];done)),H',⟨Nat.le_refl _⟩,⟨ZKV HO0⟩,⟨ZQ HB⟩⟩
 case round =>
  clear H'
  obtain ⟨x5_1,rfl,HA,HK1,HO_0,HB⟩ := hrel
  cases gk with
  | zero => exact absurd HA.out (by simp [spec_l1Put.l0])
  | succ k1 =>
   have H := HA.out
   clear HA
   simp only [spec_l1Put.l0] at H
   by_cases c3 : x5_1 < (l0.length : Int);rotate_left
   ·rw [if_neg c3] at H
    have c3b0 : decide (x5_1 < (l0.length : Int)) = false := decide_eq_false c3
    clear c3
    obtain ⟨y125,hy125⟩ : ∃ y_ : List Int,y_ = (([] : List Int)) := ⟨_,rfl⟩
    replace H : (if 0 ≤ x5_1 then (if x5_1 ≤ (l0.length : Int) then ((some (l0.take (x5_1 : Int).toNat : List Int)).bind fun y128 => (if y125.length + y128.length < 17592186044416 then ((some (y125 ++ y128 : List Int)).bind fun y133 => (if y133.length < 17592186044416 then ((some (y133 ++ [a1] : List Int)).bind fun y136 => ((some (l0.drop (x5_1 : Int).toNat : List Int)).bind fun y139 => (if y136.length + y139.length < 17592186044416 then (some (y136 ++ y139)) else (none)))) else (none))) else (none))) else (none)) else (none)) = some r := by first|(rw [hy125];with_reducible exact H)|(have H2_ := (Option.bind_some _ _).symm.trans H;rw [hy125];with_reducible exact H2_)|(have H2_ := (Option.bind_some _ _).symm.trans H;with_reducible exact H2_)|with_reducible exact H|(rw [hy125];exact H)|exact H
    have Ny125 := Aside0.mk hy125
    clear hy125
    by_cases c21 : 0 ≤ x5_1;rotate_left
    ·rw [if_neg c21] at H
     exact absurd H (by simp)


    rw [if_pos c21] at H
    have c21b0 := eq_true c21
    have c21b1 : decide (0 ≤ x5_1) = true := decide_eq_true c21
    clear c21
    by_cases c22 : x5_1 ≤ (l0.length : Int);rotate_left
    ·rw [if_neg c22] at H
     exact absurd H (by simp)
    rw [if_pos c22] at H
    have c22b0 := eq_true c22
    have c22b1 : decide (x5_1 ≤ (l0.length : Int)) = true := decide_eq_true c22
    clear c22
    obtain ⟨y128,hy128⟩ : ∃ y_ : List Int,y_ = (l0.take (x5_1 : Int).toNat) := ⟨_,rfl⟩
    replace H : (if y125.length + y128.length < 17592186044416 then ((some (y125 ++ y128 : List Int)).bind fun y133 => (if y133.length < 17592186044416 then ((some (y133 ++ [a1] : List Int)).bind fun y136 => ((some (l0.drop (x5_1 : Int).toNat : List Int)).bind fun y139 => (if y136.length + y139.length < 17592186044416 then (some (y136 ++ y139)) else (none)))) else (none))) else (none)) = some r := by first|(rw [hy128];with_reducible exact H)|(have H2_ := (Option.bind_some _ _).symm.trans H;rw [hy128];with_reducible exact H2_)|(have H2_ := (Option.bind_some _ _).symm.trans H;with_reducible exact H2_)|with_reducible exact H|(rw [hy128];exact H)|exact H
    have Ny128 := Aside0.mk hy128
    clear hy128
    by_cases c23 : y125.length + y128.length < 17592186044416;rotate_left
    ·rw [if_neg c23] at H
     exact absurd H (by simp)
    rw [if_pos c23] at H
    have LMc23 := Aside0.mk c23
    clear c23
    obtain ⟨y133,hy133⟩ : ∃ y_ : List Int,y_ = (y125 ++ y128) := ⟨_,rfl⟩
    replace H : (if y133.length < 17592186044416 then ((some (y133 ++ [a1] : List Int)).bind fun y136 => ((some (l0.drop (x5_1 : Int).toNat : List Int)).bind fun y139 => (if y136.length + y139.length < 17592186044416 then (some (y136 ++ y139)) else (none)))) else (none)) = some r := by first|(rw [hy133];with_reducible exact H)|(have H2_ := (Option.bind_some _ _).symm.trans H;rw [hy133];with_reducible exact H2_)|(have H2_ := (Option.bind_some _ _).symm.trans H;with_reducible exact H2_)|with_reducible exact H|(rw [hy133];exact H)|exact H
    have Ny133 := Aside0.mk hy133
    clear hy133
    by_cases c24 : y133.length < 17592186044416;rotate_left
    ·rw [if_neg c24] at H
     exact absurd H (by simp)
    rw [if_pos c24] at H
    have LMc24 := Aside0.mk c24
    clear c24
    obtain ⟨y136,hy136⟩ : ∃ y_ : List Int,y_ = (y133 ++ [a1]) := ⟨_,rfl⟩
    replace H : ((some (l0.drop (x5_1 : Int).toNat : List Int)).bind fun y139 => (if y136.length + y139.length < 17592186044416 then (some (y136 ++ y139)) else (none))) = some r := by first|(rw [hy136];with_reducible exact H)|(have H2_ := (Option.bind_some _ _).symm.trans H;rw [hy136];with_reducible exact H2_)|(have H2_ := (Option.bind_some _ _).symm.trans H;with_reducible exact H2_)|with_reducible exact H|(rw [hy136];exact H)|exact H
    have Ny136 := Aside0.mk hy136
    clear hy136
    have c25b0 := eq_true (ZD : 0 ≤ x5_1)
    have c26b0 := eq_true (ZD : x5_1 ≤ (l0.length : Int))
    obtain ⟨y139,hy139⟩ : ∃ y_ : List Int,y_ = (l0.drop (x5_1 : Int).toNat) := ⟨_,rfl⟩
    replace H : (if y136.length + y139.length < 17592186044416 then (some (y136 ++ y139)) else (none)) = some r := by first|(rw [hy139];with_reducible exact H)|(have H2_ := (Option.bind_some _ _).symm.trans H;rw [hy139];with_reducible exact H2_)|(have H2_ := (Option.bind_some _ _).symm.trans H;with_reducible exact H2_)|with_reducible exact H|(rw [hy139];exact H)|exact H
    have Ny139 := Aside0.mk hy139
    clear hy139
    by_cases c27 : y136.length + y139.length < 17592186044416;rotate_left
    ·rw [if_neg c27] at H
     exact absurd H (by simp)
    rw [if_pos c27] at H
    have LMc27 := Aside0.mk c27
    clear c27
    obtain ⟨y144,hy144⟩ : ∃ y_ : List Int,y_ = (y136 ++ y139) := ⟨_,rfl⟩
    replace H : (some y144) = some r := by first|(rw [hy144];with_reducible exact H)|(have H2_ := (Option.bind_some _ _).symm.trans H;rw [hy144];with_reducible exact H2_)|(have H2_ := (Option.bind_some _ _).symm.trans H;with_reducible exact H2_)|with_reducible exact H|(rw [hy144];exact H)|exact H
    have Ny144 := Aside0.mk hy144
    clear hy144
    obtain rfl := Option.some.inj H
    go_wp2_with (first|((with_reducible refine gate_dst (N := 34) rfl ?_);refine Kd.R_lit (Kd.int .i64) _ 3 ?hg (N := 34) ?hd (xs := ([] : List Int)) (inner := []) (ok := fun _ => True) (okp := fun _ => True) ?hr ?hp (fun _ hk => hk) trivial (Below.refl _ _) (Nat.le_refl _) (by simp) ?_;(case hd => rfl);(case hg => rfl);(case hr => first|(go_simp;done)|(go_simp;rfl));(case hp => exact (Reps.none _ _));intro v126 w28 ho29 hb hg_ hnew_;clear hg_ hnew_;(first|rw [← Ny125.out] at ho29|(simp only [Int.reduceToNat] at ho29;rw [← Ny125.out] at ho29));replace HO_0 := Aside0.mk (Kd.V_elder' (ZKV HO_0) (Kd.R_base ho29) hb);have HO127 := Aside0.mk (Kd.R_lower (Kd.R_newM (M := fun k_ => (w.heap.size ≤ k_)) ho29 (below_size (ZQ HB)) (fun k_ h_ => h_)) (below_size (ZQ HB)));replace HB := Aside0.mk (below_step (ZQ HB) hb);clear hb ho29;have q30 : (x5_1 : Int) ≤ ((l0.length : Int) : Int) := ZD;obtain ⟨i030,hi030,_,hsz30,_⟩ := info_parts info3;have hroom30 : l0.length ≤ c0 := (Kd.V_reads' HO_0.out).2.1;have hC30 : Kd.F (Kd.int .i64) _ _ A0 l0.length l0 := (Kd.V_at (base := w.heap.size) HO_0.out).2.2;have hcut30 := cut_to (P := Try.prog) 32 3 .i64 Try.underlying32 hi030 A0 l0.length c0 x5_1 ZD q30 hroom30;have hr30 := Kd.F_take (m := (x5_1 : Int).toNat) hC30 (by omega);have hy30 : y128.length = (x5_1 : Int).toNat := (by rw [Ny128.out,List.length_take];omega);rw [← Ny128.out] at hr30;rw [← hy30] at hcut30;have HO132 := Aside0.mk (show Kd.V (Kd.int .i64) 3 _ w.heap.size _ (.slice A0 y128.length c0) y128 from Kd.V_mk (by omega) hr30);have HC132 := Aside0.mk (show y128.length ≤ c0 from by omega);clear hr30 hC30 hroom30 hi030 hsz30;have KY30 := Aside0.mk hy30;clear hy30;replace q30 := eq_true q30)|((with_reducible refine gate_builtin (b := .append) (xs := #[.tmp 34,.tmp 37]) rfl ?_);at_builtin;refine Kd.R_append_rows (Kd.int .i64) (w0 := w) w.heap.size rfl (.tmp 34) (.tmp 37) 32 3 (.int .i64 0) 8 rfl Try.underlying32 info3 rfl (by decide) (by omega) v126 y125 y128 _ _ _ (fun k_ => (w.heap.size ≤ k_)) (fun _ => False) rfl rfl ?aO ?aR (fun _ _ h => h) (fun _ h => h.elim) ?aF ?aB ?aS ?aL ?_;(case aR => exact ZR (Kd.V_reads' HO132.out).2.2);(case aB => exact (ZQ HB));(case aF => exact (fun k_ hk => (Nat.le_trans (below_size (ZQ HB)) hk)));(case aO => exact (ZK ⟨Kd.R_mono HO127.out (fun _ hk => hk.1)⟩));(case aS => exact (below_size (ZQ HB)));(case aL => have := LMc23.out;omega);intro v134 w31 ho hb hg hat;rw [← Ny133.out] at ho;replace HO_0 := Aside0.mk (Kd.V_afterv (ok := (fun k_ => (P0_ k_ ∨ w.heap.size ≤ k_))) (ZKV HO_0) hg hat);replace HO132 := Aside0.mk (Kd.V_afterv (ok := (fun k_ => (P0_ k_ ∨ w.heap.size ≤ k_))) (ZKV HO132) hg hat);replace HB := Aside0.mk (hb);have HO135 := Aside0.mk (ho);clear HO127;clear ho hb hg hat)|((with_reducible refine gate_builtin (b := .append) (xs := #[.tmp 39,.tmp 41]) rfl ?_);at_builtin;refine Kd.R_append (Kd.int .i64) (w0 := w) w.heap.size rfl (.tmp 39) (.tmp 41) 32 3 (.int .i64 0) 8 rfl Try.underlying32 info3 rfl (by decide) (by omega) v134 y133 a1 [.int .i64 a1] (fun k_ => (w.heap.size ≤ k_)) (fun _ => False) rfl rfl ?aP (fun _ hk => hk.elim) ?aF ?aO ?aB ?aS ?aL ?_;(case aP => exact rfl);(case aB => exact (ZQ HB));(case aF => exact (fun k_ hk => (Nat.le_trans (below_size (ZQ HB)) hk)));(case aO => exact (ZK HO135));(case aS => exact (below_size (ZQ HB)));(case aL => have := LMc24.out;omega);intro v137 w32 ho hb hg hat;rw [← Ny136.out] at ho;replace HO_0 := Aside0.mk (Kd.V_afterv (ok := (fun k_ => (P0_ k_ ∨ w.heap.size ≤ k_))) (ZKV HO_0) hg hat);replace HO132 := Aside0.mk (Kd.V_afterv (ok := (fun k_ => (P0_ k_ ∨ w.heap.size ≤ k_))) (ZKV HO132) hg hat);replace HB := Aside0.mk (hb);have HO138 := Aside0.mk (ho);clear HO135;clear ho hb hg hat;have q33 : (x5_1 : Int) ≤ ((l0.length : Int) : Int) := ZD;obtain ⟨i033,hi033,_,hsz33,_⟩ := info_parts info3;have hroom33 : l0.length ≤ c0 := (Kd.V_reads' HO_0.out).2.1;have hC33 : Kd.F (Kd.int .i64) _ _ A0 l0.length l0 := (Kd.V_at (base := w.heap.size) HO_0.out).2.2;have q033 : (0 : Int) ≤ (x5_1 : Int) := ZD;have hcut33 := cut_from (P := Try.prog) 32 3 .i64 Try.underlying32 hi033 1 hsz33 A0 l0.length c0 x5_1 q033 q33;have hr33 := Kd.F_cut (m := (x5_1 : Int).toNat) (c := c0) hC33 (by omega) hroom33;obtain ⟨A33,hA33⟩ : ∃ A1,A1 = (if c0 = (x5_1 : Int).toNat then A0 else (A0 : Option Addr).map (·.add ((x5_1 : Int).toNat * 1))) := ⟨_,rfl⟩;obtain ⟨c33,hc33⟩ : ∃ c1,c1 = c0 - (x5_1 : Int).toNat := ⟨_,rfl⟩;have hy33 : y139.length = l0.length - (x5_1 : Int).toNat := (by rw [Ny139.out,List.length_drop] <;> omega);rw [show (l0).drop (x5_1 : Int).toNat = y139 from Ny139.out.symm] at hr33;replace hr33 : Kd.F (Kd.int .i64) _ _ A33 y139.length y139 := (by rw [hA33];exact hr33);rw [← hy33,← hA33,← hc33] at hcut33;have HO143 := Aside0.mk (show Kd.V (Kd.int .i64) 3 _ w.heap.size _ (.slice A33 y139.length c33) y139 from Kd.V_mk (by rw [hy33,hc33];exact Nat.sub_le_sub_right hroom33 _) hr33);have HC143 := Aside0.mk (show y139.length ≤ c33 from by rw [hy33,hc33];exact Nat.sub_le_sub_right hroom33 _);clear hr33 hC33 hroom33 hi033 hsz33 hc33;have KY33 := Aside0.mk hy33;have KA33 := Aside0.mk hA33;clear hy33 hA33;replace q33 := eq_true q33)|((with_reducible refine gate_builtin (b := .append) (xs := #[.tmp 43,.tmp 46]) rfl ?_);at_builtin;refine Kd.R_append_rows (Kd.int .i64) (w0 := w) w.heap.size rfl (.tmp 43) (.tmp 46) 32 3 (.int .i64 0) 8 rfl Try.underlying32 info3 rfl (by decide) (by omega) v137 y136 y139 _ _ _ (fun k_ => (w.heap.size ≤ k_)) (fun _ => False) rfl rfl ?aO ?aR (fun _ _ h => h) (fun _ h => h.elim) ?aF ?aB ?aS ?aL ?_;(case aR => exact ZR (Kd.V_reads' HO143.out).2.2);(case aB => exact (ZQ HB));(case aF => exact (fun k_ hk => (Nat.le_trans (below_size (ZQ HB)) hk)));(case aO => exact (ZK HO138));(case aS => exact (below_size (ZQ HB)));(case aL => have := LMc27.out;omega);intro v145 w34 ho hb hg hat;rw [← Ny144.out] at ho;replace HO_0 := Aside0.mk (Kd.V_afterv (ok := (fun k_ => (P0_ k_ ∨ w.heap.size ≤ k_))) (ZKV HO_0) hg hat);replace HO132 := Aside0.mk (Kd.V_afterv (ok := (fun k_ => (P0_ k_ ∨ w.heap.size ≤ k_))) (ZKV HO132) hg hat);replace HO143 := Aside0.mk (Kd.V_afterv (ok := (fun k_ => (P0_ k_ ∨ w.heap.size ≤ k_))) (ZKV HO143) hg hat);replace HB := Aside0.mk (hb);have HO146 := Aside0.mk (ho);clear HO138;clear ho hb hg hat))
    go_ret
    exact ⟨_,by first|rfl|(simp [*,errW_none,errW_some] <;> rfl),Kd.V_mono (Kd.R_V (ZK HO146)) (fun k_ hk => by first|exact ⟨(.inr (hk.1)),hk.2⟩|exact (.inr (hk))),ZQ HB⟩
   rw [if_pos c3] at H
   have c3b0 : decide (x5_1 < (l0.length : Int)) = true := decide_eq_true c3
   clear c3
   by_cases c4 : 0 ≤ x5_1;rotate_left
   ·rw [if_neg c4] at H
    exact absurd H (by simp)
   rw [if_pos c4] at H
   have c4b0 : decide (0 ≤ x5_1) = true := decide_eq_true c4
   clear c4
   by_cases c5 : (rd l0 x5_1) < a1
   ·rw [if_pos c5] at H
    have c5b0 := decide_eq_true c5
    clear c5
    have H' := Aside0.mk H
    clear H
    have p101 : 0 ≤ (x5_1 : Int) := ZD
    have q101 : x5_1 < (l0.length : Int) := ZD
    obtain ⟨ad101,e101,hx101_0⟩ := Kd.at_int (Kd.V_reads' HO_0.out).2.2 x5_1 p101 q101
    cases e101
    replace p101 := eq_true p101
    replace q101 := eq_true q101
    go_wp2
    go_roundg k1
    case measure => have := HK1.out;omega
    case rel => exact ⟨(wrap64 (x5_1 + 1)),(by first|rfl|(simp;done)|(simp [*];done)),H',⟨by have := HK1.out;omega⟩,⟨ZKV HO_0⟩,⟨ZQ HB⟩⟩
   rw [if_neg c5] at H
   have c5b0 := decide_eq_false c5
   clear c5
   by_cases c6 : (rd l0 x5_1) = a1
   ·rw [if_pos c6] at H
    have c6b0 : ((rd l0 x5_1) == a1) = true := beq_iff_eq.mpr c6
    have c6b1 : ((rd l0 x5_1) != a1) = false := bne_eq_false_iff_eq.mpr c6
    clear c6
    obtain rfl := Option.some.inj H
    have p101 : 0 ≤ (x5_1 : Int) := ZD
    have q101 : x5_1 < (l0.length : Int) := ZD
    obtain ⟨ad101,e101,hx101_0⟩ := Kd.at_int (Kd.V_reads' HO_0.out).2.2 x5_1 p101 q101
    cases e101
    replace p101 := eq_true p101
    replace q101 := eq_true q101
    have p102 : 0 ≤ (x5_1 : Int) := ZD
    have q102 : x5_1 < (l0.length : Int) := ZD
    obtain ⟨ad102,e102,hx102_0⟩ := Kd.at_int (Kd.V_reads' HO_0.out).2.2 x5_1 p102 q102
    obtain rfl : ad101 = ad102 := (by injection e102)
    replace p102 := eq_true p102
    replace q102 := eq_true q102
    go_wp2
    go_ret
    exact ⟨_,by first|rfl|(simp [*,errW_none,errW_some] <;> rfl),ZKV HO_0,ZQ HB⟩
   rw [if_neg c6] at H
   have c6b0 : ((rd l0 x5_1) == a1) = false := beq_eq_false_iff_ne.mpr c6
   have c6b1 : ((rd l0 x5_1) != a1) = true := bne_iff_ne.mpr c6
   obtain ⟨y103,hy103⟩ : ∃ y_ : List Int,y_ = (([] : List Int)) := ⟨_,rfl⟩
   replace H : (if x5_1 ≤ (l0.length : Int) then ((some (l0.take (x5_1 : Int).toNat : List Int)).bind fun y106 => (if y103.length + y106.length < 17592186044416 then ((some (y103 ++ y106 : List Int)).bind fun y111 => (if y111.length < 17592186044416 then ((some (y111 ++ [a1] : List Int)).bind fun y114 => ((some (l0.drop (x5_1 : Int).toNat : List Int)).bind fun y117 => (if y114.length + y117.length < 17592186044416 then (some (y114 ++ y117)) else (none)))) else (none))) else (none))) else (none)) = some r := by first|(rw [hy103];with_reducible exact H)|(have H2_ := (Option.bind_some _ _).symm.trans H;rw [hy103];with_reducible exact H2_)|(have H2_ := (Option.bind_some _ _).symm.trans H;with_reducible exact H2_)|with_reducible exact H|(rw [hy103];exact H)|exact H
   have Ny103 := Aside0.mk hy103
   clear hy103
   have c7b0 := eq_true (ZD : 0 ≤ x5_1)
   by_cases c8 : x5_1 ≤ (l0.length : Int);rotate_left
   ·rw [if_neg c8] at H
    exact absurd H (by simp)
   rw [if_pos c8] at H
   have c8b0 := eq_true c8
   have c8b1 : decide (x5_1 ≤ (l0.length : Int)) = true := decide_eq_true c8
   clear c8
   obtain ⟨y106,hy106⟩ : ∃ y_ : List Int,y_ = (l0.take (x5_1 : Int).toNat) := ⟨_,rfl⟩
   replace H : (if y103.length + y106.length < 17592186044416 then ((some (y103 ++ y106 : List Int)).bind fun y111 => (if y111.length < 17592186044416 then ((some (y111 ++ [a1] : List Int)).bind fun y114 => ((some (l0.drop (x5_1 : Int).toNat : List Int)).bind fun y117 => (if y114.length + y117.length < 17592186044416 then (some (y114 ++ y117)) else (none)))) else (none))) else (none)) = some r := by first|(rw [hy106];with_reducible exact H)|(have H2_ := (Option.bind_some _ _).symm.trans H;rw [hy106];with_reducible exact H2_)|(have H2_ := (Option.bind_some _ _).symm.trans H;with_reducible exact H2_)|with_reducible exact H|(rw [hy106];exact H)|exact H
   have Ny106 := Aside0.mk hy106
   clear hy106
   by_cases c9 : y103.length + y106.length < 17592186044416;rotate_left
   ·rw [if_neg c9] at H
    exact absurd H (by simp)
   rw [if_pos c9] at H
   have LMc9 := Aside0.mk c9
   clear c9
   obtain ⟨y111,hy111⟩ : ∃ y_ : List Int,y_ = (y103 ++ y106) := ⟨_,rfl⟩
   replace H : (if y111.length < 17592186044416 then ((some (y111 ++ [a1] : List Int)).bind fun y114 => ((some (l0.drop (x5_1 : Int).toNat : List Int)).bind fun y117 => (if y114.length + y117.length < 17592186044416 then (some (y114 ++ y117)) else (none)))) else (none)) = some r := by first|(rw [hy111];with_reducible exact H)|(have H2_ := (Option.bind_some _ _).symm.trans H;rw [hy111];with_reducible exact H2_)|(have H2_ := (Option.bind_some _ _).symm.trans H;with_reducible exact H2_)|with_reducible exact H|(rw [hy111];exact H)|exact H
   have Ny111 := Aside0.mk hy111
   clear hy111
   by_cases c10 : y111.length < 17592186044416;rotate_left
   ·rw [if_neg c10] at H
    exact absurd H (by simp)
   rw [if_pos c10] at H
   have LMc10 := Aside0.mk c10
   clear c10
   obtain ⟨y114,hy114⟩ : ∃ y_ : List Int,y_ = (y111 ++ [a1]) := ⟨_,rfl⟩
   replace H : ((some (l0.drop (x5_1 : Int).toNat : List Int)).bind fun y117 => (if y114.length + y117.length < 17592186044416 then (some (y114 ++ y117)) else (none))) = some r := by first|(rw [hy114];with_reducible exact H)|(have H2_ := (Option.bind_some _ _).symm.trans H;rw [hy114];with_reducible exact H2_)|(have H2_ := (Option.bind_some _ _).symm.trans H;with_reducible exact H2_)|with_reducible exact H|(rw [hy114];exact H)|exact H
   have Ny114 := Aside0.mk hy114
   clear hy114
   have c11b0 := eq_true (ZD : 0 ≤ x5_1)
   have c12b0 := eq_true (ZD : x5_1 ≤ (l0.length : Int))
   obtain ⟨y117,hy117⟩ : ∃ y_ : List Int,y_ = (l0.drop (x5_1 : Int).toNat) := ⟨_,rfl⟩
   replace H : (if y114.length + y117.length < 17592186044416 then (some (y114 ++ y117)) else (none)) = some r := by first|(rw [hy117];with_reducible exact H)|(have H2_ := (Option.bind_some _ _).symm.trans H;rw [hy117];with_reducible exact H2_)|(have H2_ := (Option.bind_some _ _).symm.trans H;with_reducible exact H2_)|with_reducible exact H|(rw [hy117];exact H)|exact H
   have Ny117 := Aside0.mk hy117
   clear hy117
   by_cases c13 : y114.length + y117.length < 17592186044416;rotate_left
   ·rw [if_neg c13] at H
    exact absurd H (by simp)
   rw [if_pos c13] at H
   have LMc13 := Aside0.mk c13
   clear c13
   obtain ⟨y122,hy122⟩ : ∃ y_ : List Int,y_ = (y114 ++ y117) := ⟨_,rfl⟩
   replace H : (some y122) = some r := by first|(rw [hy122];with_reducible exact H)|(have H2_ := (Option.bind_some _ _).symm.trans H;rw [hy122];with_reducible exact H2_)|(have H2_ := (Option.bind_some _ _).symm.trans H;with_reducible exact H2_)|with_reducible exact H|(rw [hy122];exact H)|exact H
   have Ny122 := Aside0.mk hy122
   clear hy122
   obtain rfl := Option.some.inj H
   have p101 : 0 ≤ (x5_1 : Int) := ZD
   have q101 : x5_1 < (l0.length : Int) := ZD
   obtain ⟨ad101,e101,hx101_0⟩ := Kd.at_int (Kd.V_reads' HO_0.out).2.2 x5_1 p101 q101
   cases e101
   replace p101 := eq_true p101
   replace q101 := eq_true q101
   have p102 : 0 ≤ (x5_1 : Int) := ZD
   have q102 : x5_1 < (l0.length : Int) := ZD
   obtain ⟨ad102,e102,hx102_0⟩ := Kd.at_int (Kd.V_reads' HO_0.out).2.2 x5_1 p102 q102
   obtain rfl : ad101 = ad102 := (by injection e102)
   replace p102 := eq_true p102
   replace q102 := eq_true q102
   go_wp2_with (first|((with_reducible refine gate_dst (N := 34) rfl ?_);refine Kd.R_lit (Kd.int .i64) _ 3 ?hg (N := 34) ?hd (xs := ([] : List Int)) (inner := []) (ok := fun _ => True) (okp := fun _ => True) ?hr ?hp (fun _ hk => hk) trivial (Below.refl _ _) (Nat.le_refl _) (by simp) ?_;(case hd => rfl);(case hg => rfl);(case hr => first|(go_simp;done)|(go_simp;rfl));(case hp => exact (Reps.none _ _));intro v104 w14 ho15 hb hg_ hnew_;clear hg_ hnew_;(first|rw [← Ny103.out] at ho15|(simp only [Int.reduceToNat] at ho15;rw [← Ny103.out] at ho15));replace HO_0 := Aside0.mk (Kd.V_elder' (ZKV HO_0) (Kd.R_base ho15) hb);have HO105 := Aside0.mk (Kd.R_lower (Kd.R_newM (M := fun k_ => (w.heap.size ≤ k_)) ho15 (below_size (ZQ HB)) (fun k_ h_ => h_)) (below_size (ZQ HB)));replace HB := Aside0.mk (below_step (ZQ HB) hb);clear hb ho15;have q16 : (x5_1 : Int) ≤ ((l0.length : Int) : Int) := ZD;obtain ⟨i016,hi016,_,hsz16,_⟩ := info_parts info3;have hroom16 : l0.length ≤ c0 := (Kd.V_reads' HO_0.out).2.1;have hC16 : Kd.F (Kd.int .i64) _ _ (some ad101) l0.length l0 := (Kd.V_at (base := w.heap.size) HO_0.out).2.2;have hcut16 := cut_to (P := Try.prog) 32 3 .i64 Try.underlying32 hi016 (some ad101) l0.length c0 x5_1 ZD q16 hroom16;have hr16 := Kd.F_take (m := (x5_1 : Int).toNat) hC16 (by omega);have hy16 : y106.length = (x5_1 : Int).toNat := (by rw [Ny106.out,List.length_take];omega);rw [← Ny106.out] at hr16;rw [← hy16] at hcut16;have HO110 := Aside0.mk (show Kd.V (Kd.int .i64) 3 _ w.heap.size _ (.slice (some ad101) y106.length c0) y106 from Kd.V_mk (by omega) hr16);have HC110 := Aside0.mk (show y106.length ≤ c0 from by omega);clear hr16 hC16 hroom16 hi016 hsz16;have KY16 := Aside0.mk hy16;clear hy16;replace q16 := eq_true q16)|((with_reducible refine gate_builtin (b := .append) (xs := #[.tmp 34,.tmp 37]) rfl ?_);at_builtin;refine Kd.R_append_rows (Kd.int .i64) (w0 := w) w.heap.size rfl (.tmp 34) (.tmp 37) 32 3 (.int .i64 0) 8 rfl Try.underlying32 info3 rfl (by decide) (by omega) v104 y103 y106 _ _ _ (fun k_ => (w.heap.size ≤ k_)) (fun _ => False) rfl rfl ?aO ?aR (fun _ _ h => h) (fun _ h => h.elim) ?aF ?aB ?aS ?aL ?_;(case aR => exact ZR (Kd.V_reads' HO110.out).2.2);(case aB => exact (ZQ HB));(case aF => exact (fun k_ hk => (Nat.le_trans (below_size (ZQ HB)) hk)));(case aO => exact (ZK ⟨Kd.R_mono HO105.out (fun _ hk => hk.1)⟩));(case aS => exact (below_size (ZQ HB)));(case aL => have := LMc9.out;omega);intro v112 w17 ho hb hg hat;rw [← Ny111.out] at ho;replace HO_0 := Aside0.mk (Kd.V_afterv (ok := (fun k_ => (P0_ k_ ∨ w.heap.size ≤ k_))) (ZKV HO_0) hg hat);replace HO110 := Aside0.mk (Kd.V_afterv (ok := (fun k_ => (P0_ k_ ∨ w.heap.size ≤ k_))) (ZKV HO110) hg hat);replace HB := Aside0.mk (hb);have HO113 := Aside0.mk (ho);clear HO105;clear ho hb hg hat)|((with_reducible refine gate_builtin (b := .append) (xs := #[.tmp 39,.tmp 41]) rfl ?_);at_builtin;refine Kd.R_append (Kd.int .i64) (w0 := w) w.heap.size rfl (.tmp 39) (.tmp 41) 32 3 (.int .i64 0) 8 rfl Try.underlying32 info3 rfl (by decide) (by omega) v112 y111 a1 [.int .i64 a1] (fun k_ => (w.heap.size ≤ k_)) (fun _ => False) rfl rfl ?aP (fun _ hk => hk.elim) ?aF ?aO ?aB ?aS ?aL ?_;(case aP => exact rfl);(case aB => exact (ZQ HB));(case aF => exact (fun k_ hk => (Nat.le_trans (below_size (ZQ HB)) hk)));(case aO => exact (ZK HO113));(case aS => exact (below_size (ZQ HB)));(case aL => have := LMc10.out;omega);intro v115 w18 ho hb hg hat;rw [← Ny114.out] at ho;replace HO_0 := Aside0.mk (Kd.V_afterv (ok := (fun k_ => (P0_ k_ ∨ w.heap.size ≤ k_))) (ZKV HO_0) hg hat);replace HO110 := Aside0.mk (Kd.V_afterv (ok := (fun k_ => (P0_ k_ ∨ w.heap.size ≤ k_))) (ZKV HO110) hg hat);replace HB := Aside0.mk (hb);have HO116 := Aside0.mk (ho);clear HO113;clear ho hb hg hat;have q19 : (x5_1 : Int) ≤ ((l0.length : Int) : Int) := ZD;obtain ⟨i019,hi019,_,hsz19,_⟩ := info_parts info3;have hroom19 : l0.length ≤ c0 := (Kd.V_reads' HO_0.out).2.1;have hC19 : Kd.F (Kd.int .i64) _ _ (some ad101) l0.length l0 := (Kd.V_at (base := w.heap.size) HO_0.out).2.2;have q019 : (0 : Int) ≤ (x5_1 : Int) := ZD;have hcut19 := cut_from (P := Try.prog) 32 3 .i64 Try.underlying32 hi019 1 hsz19 (some ad101) l0.length c0 x5_1 q019 q19;have hr19 := Kd.F_cut (m := (x5_1 : Int).toNat) (c := c0) hC19 (by omega) hroom19;obtain ⟨A19,hA19⟩ : ∃ A1,A1 = (if c0 = (x5_1 : Int).toNat then (some ad101) else ((some ad101) : Option Addr).map (·.add ((x5_1 : Int).toNat * 1))) := ⟨_,rfl⟩;obtain ⟨c19,hc19⟩ : ∃ c1,c1 = c0 - (x5_1 : Int).toNat := ⟨_,rfl⟩;have hy19 : y117.length = l0.length - (x5_1 : Int).toNat := (by rw [Ny117.out,List.length_drop] <;> omega);rw [show (l0).drop (x5_1 : Int).toNat = y117 from Ny117.out.symm] at hr19;replace hr19 : Kd.F (Kd.int .i64) _ _ A19 y117.length y117 := (by rw [hA19];exact hr19);rw [← hy19,← hA19,← hc19] at hcut19;have HO121 := Aside0.mk (show Kd.V (Kd.int .i64) 3 _ w.heap.size _ (.slice A19 y117.length c19) y117 from Kd.V_mk (by rw [hy19,hc19];exact Nat.sub_le_sub_right hroom19 _) hr19);have HC121 := Aside0.mk (show y117.length ≤ c19 from by rw [hy19,hc19];exact Nat.sub_le_sub_right hroom19 _);clear hr19 hC19 hroom19 hi019 hsz19 hc19;have KY19 := Aside0.mk hy19;have KA19 := Aside0.mk hA19;clear hy19 hA19;replace q19 := eq_true q19)|((with_reducible refine gate_builtin (b := .append) (xs := #[.tmp 43,.tmp 46]) rfl ?_);at_builtin;refine Kd.R_append_rows (Kd.int .i64) (w0 := w) w.heap.size rfl (.tmp 43) (.tmp 46) 32 3 (.int .i64 0) 8 rfl Try.underlying32 info3 rfl (by decide) (by omega) v115 y114 y117 _ _ _ (fun k_ => (w.heap.size ≤ k_)) (fun _ => False) rfl rfl ?aO ?aR (fun _ _ h => h) (fun _ h => h.elim) ?aF ?aB ?aS ?aL ?_;(case aR => exact ZR (Kd.V_reads' HO121.out).2.2);(case aB => exact (ZQ HB));(case aF => exact (fun k_ hk => (Nat.le_trans (below_size (ZQ HB)) hk)));(case aO => exact (ZK HO116));(case aS => exact (below_size (ZQ HB)));(case aL => have := LMc13.out;omega);intro v123 w20 ho hb hg hat;rw [← Ny122.out] at ho;replace HO_0 := Aside0.mk (Kd.V_afterv (ok := (fun k_ => (P0_ k_ ∨ w.heap.size ≤ k_))) (ZKV HO_0) hg hat);replace HO110 := Aside0.mk (Kd.V_afterv (ok := (fun k_ => (P0_ k_ ∨ w.heap.size ≤ k_))) (ZKV HO110) hg hat);replace HO121 := Aside0.mk (Kd.V_afterv (ok := (fun k_ => (P0_ k_ ∨ w.heap.size ≤ k_))) (ZKV HO121) hg hat);replace HB := Aside0.mk (hb);have HO124 := Aside0.mk (ho);clear HO116;clear ho hb hg hat))
   go_ret
   exact ⟨_,by first|rfl|(simp [*,errW_none,errW_some] <;> rfl),Kd.V_mono (Kd.R_V (ZK HO124)) (fun k_ hk => by first|exact ⟨(.inr (hk.1)),hk.2⟩|exact (.inr (hk))),ZQ HB⟩
/-! ### spec_l1Cur_one: function 46 -/
def spec_l1Cur_one.f (s0_0 : List Int) (s0_1 : Int) (s0_2 : Int) (a1 : Int) : Option (Bool × Int × Int) := (spec_l1Cur_pick.f s0_0 s0_1 s0_2 a1).bind fun bt101 => (some ((bt101.1 == 0),bt101.2.1,bt101.2.2))
set_option maxHeartbeats 3000000 in
set_option maxRecDepth 100000 in
theorem spec_l1Cur_one.calls (g : Nat) (s0_0 : List Int) (s0_1 : Int) (s0_2 : Int) (a1 : Int) (r1 : Bool) (r2 : Int) (r3 : Int) (w0 w : World) (hI : IsS49 w0 w g s0_0 s0_1 s0_2) (hB : Below w0.heap.size w0 w) (h : spec_l1Cur_one.f s0_0 s0_1 s0_2 a1 = some (r1,r2,r3)) :
  Calls Try.prog 46 #[.pointer (some ⟨g,0,none⟩),.int .i64 a1] w fun e w' => e = .returned (.bool r1) ∧ IsS49 w0 w' g s0_0 r2 r3 ∧ Below w0.heap.size w0 w' ∧ KeepBut w w' g none := by
 have HI0 := Aside0.mk hI
 have HK := Aside0.mk (KeepBut.refl w g none)
 have HL := Aside0.mk hB.size
 clear hI
 have HW0 := Aside0.mk hB.size
 have HB := Aside0.mk hB
 clear hB
 have H : ((spec_l1Cur_pick.f s0_0 s0_1 s0_2 a1).bind fun bt101 => (some ((bt101.1 == 0),bt101.2.1,bt101.2.2))) = some (r1,r2,r3) := h
 clear h
 replace H := Option.bind_eq_some_iff.mp H
 obtain ⟨⟨t101,t102,t103⟩,A30,H⟩ := H
 try dsimp only at H
 have A3 := Aside0.mk A30
 clear A30
 simp only [Option.some.injEq,Prod.mk.injEq] at H
 obtain ⟨rfl,rfl,rfl⟩ := H
 go_enter Try.func46,Try.ntmps46
 go_wp2_with (first|((with_reducible refine gate_callee (f := 42) rfl ?_);refine goesM_ (some 7) Try.func42 #[.pointer (some ⟨g,0,none⟩),.int .i64 a1] ?_;(with_reducible refine (spec_l1Cur_pick.calls g s0_0 s0_1 s0_2 a1 t101 t102 t103 w0 _ ?side1 ?side2 A3.out).mono ?_);(case side1 => repeat (first|(with_reducible first|exact HI0.out|apply zsA|apply zsB|apply zsC|apply zsD|apply zsE)|exact HI0.out));(case side2 => repeat (first|(with_reducible first|exact HB.out|apply zbA|apply zbB|apply zbC|refine below_set ?_ (IsS49.ge HI0.out))|exact HB.out));rintro e w4 ⟨rfl,hi,hb,hk⟩;refine ⟨_,rfl,?_⟩;replace HK := Aside0.mk (KeepBut.trans (ZW HK) hk (.inl rfl));replace HB := Aside0.mk (hb);replace HI0 := Aside0.mk (hi);(try clear hb)))
 go_ret
 exact ⟨by first|rfl|(simp [*,errW_none,errW_some] <;> rfl),ZS HI0,by repeat (first|(with_reducible first|exact HB.out|apply zbA|apply zbB|apply zbC|refine below_set ?_ (IsS49.ge HI0.out))|exact HB.out),ZW HK⟩

/-! ### spec_l1Cur_of: function 68 -/
def spec_l1Cur_of.f (s0_0 : List Int) (s0_1 : Int) (s0_2 : Int) (l1 : List ByteArray) : Option (ByteArray × Int × Int) := (spec_l1Cur_pick.f s0_0 s0_1 s0_2 (l1.length : Int)).bind fun bt101 => (if 0 ≤ bt101.1 then (if bt101.1 < (l1.length : Int) then (some (rdOf ByteArray.empty l1 bt101.1,bt101.2.1,bt101.2.2)) else (none)) else (none))
set_option maxHeartbeats 3000000 in
set_option maxRecDepth 100000 in
theorem spec_l1Cur_of.calls (g : Nat) (s0_0 : List Int) (s0_1 : Int) (s0_2 : Int) (A1 : Option Addr) (c1 : Nat) (l1 : List ByteArray) (r1 : ByteArray) (r2 : Int) (r3 : Int) (w0 w : World) (hI : IsS49 w0 w g s0_0 s0_1 s0_2) (hB : Below w0.heap.size w0 w) (hr1 : Kd.C Kd.string w A1 l1.length l1) (hc1 : l1.length ≤ c1) (hf1 : ∀ ad,A1 = some ad → 0 < l1.length → ad.block ≠ g) (h : spec_l1Cur_of.f s0_0 s0_1 s0_2 l1 = some (r1,r2,r3)) :
  Calls Try.prog 68 #[.pointer (some ⟨g,0,none⟩),.slice A1 l1.length c1] w fun e w' => e = .returned (.string r1) ∧ IsS49 w0 w' g s0_0 r2 r3 ∧ Below w0.heap.size w0 w' ∧ KeepBut w w' g none := by
 have HR1 := Aside0.mk hr1
 have HC1 := Aside0.mk hc1
 clear hr1 hc1
 have HI0 := Aside0.mk hI
 have HK := Aside0.mk (KeepBut.refl w g none)
 have HL := Aside0.mk hB.size
 clear hI
 have HW0 := Aside0.mk hB.size
 have HB := Aside0.mk hB
 clear hB
 have H : ((spec_l1Cur_pick.f s0_0 s0_1 s0_2 (l1.length : Int)).bind fun bt101 => (if 0 ≤ bt101.1 then (if bt101.1 < (l1.length : Int) then (some (rdOf ByteArray.empty l1 bt101.1,bt101.2.1,bt101.2.2)) else (none)) else (none))) = some (r1,r2,r3) := h
 clear h
 replace H := Option.bind_eq_some_iff.mp H
 obtain ⟨⟨t101,t102,t103⟩,A30,H⟩ := H
 try dsimp only at H
 have A3 := Aside0.mk A30
 clear A30
 by_cases c4 : 0 ≤ t101;rotate_left
 ·rw [if_neg c4] at H
  exact absurd H (by simp)

 rw [if_pos c4] at H
 have c4b0 : decide (0 ≤ t101) = true := decide_eq_true c4
 clear c4
 by_cases c5 : t101 < (l1.length : Int);rotate_left
 ·rw [if_neg c5] at H
  exact absurd H (by simp)
 rw [if_pos c5] at H
 have c5b0 : decide (t101 < (l1.length : Int)) = true := decide_eq_true c5
 clear c5
 simp only [Option.some.injEq,Prod.mk.injEq] at H
 obtain ⟨rfl,rfl,rfl⟩ := H
 go_enter Try.func68,Try.ntmps68
 go_wp2_with (first|((with_reducible refine gate_callee (f := 42) rfl ?_);refine goesM_ (some 9) Try.func42 #[.pointer (some ⟨g,0,none⟩),.int .i64 (l1.length : Int)] ?_;(with_reducible refine (spec_l1Cur_pick.calls g s0_0 s0_1 s0_2 (l1.length : Int) t101 t102 t103 w0 _ ?side1 ?side2 A3.out).mono ?_);(case side1 => repeat (first|(with_reducible first|exact HI0.out|apply zsA|apply zsB|apply zsC|apply zsD|apply zsE)|exact HI0.out));(case side2 => repeat (first|(with_reducible first|exact HB.out|apply zbA|apply zbB|apply zbC|refine below_set ?_ (IsS49.ge HI0.out))|exact HB.out));rintro e w6 ⟨rfl,hi,hb,hk⟩;refine ⟨_,rfl,?_⟩;replace HK := Aside0.mk (KeepBut.trans (ZW HK) hk (.inl rfl));replace HB := Aside0.mk (hb);replace HI0 := Aside0.mk (hi);(try clear hb);have p104 : 0 ≤ (t101 : Int) := ZD;have q104 : t101 < (l1.length : Int) := ZD;obtain ⟨ad104,e104,hx104_0⟩ := Kd.at_string HR1.out t101 p104 q104;cases e104;replace hx104_0 := keep_cell HK.out hx104_0 (by first|(rw [add_block];exact hf1 _ rfl (by omega))|exact hf1 _ rfl (by omega)|exact hf1 ad104 rfl (by omega));replace p104 := eq_true p104;replace q104 := eq_true q104))
 go_ret
 exact ⟨by first|rfl|(simp [*,errW_none,errW_some] <;> rfl),ZS HI0,by repeat (first|(with_reducible first|exact HB.out|apply zbA|apply zbB|apply zbC|refine below_set ?_ (IsS49.ge HI0.out))|exact HB.out),ZW HK⟩
/-! ### spec_l1Cur_anyGloss: function 47 -/
def spec_l1Cur_anyGloss.f (s0_0 : List Int) (s0_1 : Int) (s0_2 : Int) : Option (ByteArray × Int × Int) := (spec_l1Cur_of.f s0_0 s0_1 s0_2 (([(⟨#[]⟩ : ByteArray),(⟨#[115,117,110]⟩ : ByteArray),(⟨#[78,73,78,69,76,69,84,84,69]⟩ : ByteArray),(⟨#[65,49]⟩ : ByteArray),(⟨#[90,79,79]⟩ : ByteArray),(⟨#[65]⟩ : ByteArray)] : List ByteArray))).bind fun bt104 => ((spec_l1Cur_of.f s0_0 bt104.2.1 bt104.2.2 (([(⟨#[83,85,78]⟩ : ByteArray),(⟨#[72,79,85,83,69]⟩ : ByteArray),(⟨#[84,82,69,69]⟩ : ByteArray),(⟨#[82,65,73,78]⟩ : ByteArray),(⟨#[66,79,79,75]⟩ : ByteArray),(⟨#[83,85,78]⟩ : ByteArray),bt104.1] : List ByteArray))).bind fun bt110 => (some (bt110.1,bt110.2.1,bt110.2.2)))
set_option maxHeartbeats 3000000 in
set_option maxRecDepth 100000 in
theorem spec_l1Cur_anyGloss.calls (g : Nat) (s0_0 : List Int) (s0_1 : Int) (s0_2 : Int) (r1 : ByteArray) (r2 : Int) (r3 : Int) (w0 w : World) (hI : IsS49 w0 w g s0_0 s0_1 s0_2) (hB : Below w0.heap.size w0 w) (h : spec_l1Cur_anyGloss.f s0_0 s0_1 s0_2 = some (r1,r2,r3)) :
  Calls Try.prog 47 #[.pointer (some ⟨g,0,none⟩)] w fun e w' => e = .returned (.string r1) ∧ IsS49 w0 w' g s0_0 r2 r3 ∧ Below w0.heap.size w0 w' ∧ KeepBut w w' g none := by
 have HI0 := Aside0.mk hI
 have HK := Aside0.mk (KeepBut.refl w g none)
 have HL := Aside0.mk hB.size
 clear hI
 have HW0 := Aside0.mk hB.size
 have HB := Aside0.mk hB
 clear hB
 have H : ((spec_l1Cur_of.f s0_0 s0_1 s0_2 (([(⟨#[]⟩ : ByteArray),(⟨#[115,117,110]⟩ : ByteArray),(⟨#[78,73,78,69,76,69,84,84,69]⟩ : ByteArray),(⟨#[65,49]⟩ : ByteArray),(⟨#[90,79,79]⟩ : ByteArray),(⟨#[65]⟩ : ByteArray)] : List ByteArray))).bind fun bt104 => ((spec_l1Cur_of.f s0_0 bt104.2.1 bt104.2.2 (([(⟨#[83,85,78]⟩ : ByteArray),(⟨#[72,79,85,83,69]⟩ : ByteArray),(⟨#[84,82,69,69]⟩ : ByteArray),(⟨#[82,65,73,78]⟩ : ByteArray),(⟨#[66,79,79,75]⟩ : ByteArray),(⟨#[83,85,78]⟩ : ByteArray),bt104.1] : List ByteArray))).bind fun bt110 => (some (bt110.1,bt110.2.1,bt110.2.2)))) = some (r1,r2,r3) := h
 clear h
 obtain ⟨y101,hy101⟩ : ∃ y_ : List ByteArray,y_ = (([(⟨#[]⟩ : ByteArray),(⟨#[115,117,110]⟩ : ByteArray),(⟨#[78,73,78,69,76,69,84,84,69]⟩ : ByteArray),(⟨#[65,49]⟩ : ByteArray),(⟨#[90,79,79]⟩ : ByteArray),(⟨#[65]⟩ : ByteArray)] : List ByteArray)) := ⟨_,rfl⟩
 replace H : ((spec_l1Cur_of.f s0_0 s0_1 s0_2 y101).bind fun bt104 => ((spec_l1Cur_of.f s0_0 bt104.2.1 bt104.2.2 (([(⟨#[83,85,78]⟩ : ByteArray),(⟨#[72,79,85,83,69]⟩ : ByteArray),(⟨#[84,82,69,69]⟩ : ByteArray),(⟨#[82,65,73,78]⟩ : ByteArray),(⟨#[66,79,79,75]⟩ : ByteArray),(⟨#[83,85,78]⟩ : ByteArray),bt104.1] : List ByteArray))).bind fun bt110 => (some (bt110.1,bt110.2.1,bt110.2.2)))) = some (r1,r2,r3) := by first|(rw [hy101];with_reducible exact H)|(have H2_ := (Option.bind_some _ _).symm.trans H;rw [hy101];with_reducible exact H2_)|(have H2_ := (Option.bind_some _ _).symm.trans H;with_reducible exact H2_)|with_reducible exact H|(rw [hy101];exact H)|exact H
 have Ny101 := Aside0.mk hy101
 clear hy101
 replace H := Option.bind_eq_some_iff.mp H
 obtain ⟨⟨t104,t105,t106⟩,A20,H⟩ := H
 try dsimp only at H
 have A2 := Aside0.mk A20
 clear A20
 obtain ⟨y107,hy107⟩ : ∃ y_ : List ByteArray,y_ = (([(⟨#[83,85,78]⟩ : ByteArray),(⟨#[72,79,85,83,69]⟩ : ByteArray),(⟨#[84,82,69,69]⟩ : ByteArray),(⟨#[82,65,73,78]⟩ : ByteArray),(⟨#[66,79,79,75]⟩ : ByteArray),(⟨#[83,85,78]⟩ : ByteArray),t104] : List ByteArray)) := ⟨_,rfl⟩
 replace H : ((spec_l1Cur_of.f s0_0 t105 t106 y107).bind fun bt110 => (some (bt110.1,bt110.2.1,bt110.2.2))) = some (r1,r2,r3) := by first|(rw [hy107];with_reducible exact H)|(have H2_ := (Option.bind_some _ _).symm.trans H;rw [hy107];with_reducible exact H2_)|(have H2_ := (Option.bind_some _ _).symm.trans H;with_reducible exact H2_)|with_reducible exact H|(rw [hy107];exact H)|exact H
 have Ny107 := Aside0.mk hy107
 clear hy107
 replace H := Option.bind_eq_some_iff.mp H
 obtain ⟨⟨t110,t111,t112⟩,A30,H⟩ := H
 try dsimp only at H
 have A3 := Aside0.mk A30
 clear A30
 simp only [Option.some.injEq,Prod.mk.injEq] at H
 obtain ⟨rfl,rfl,rfl⟩ := H
 go_enter Try.func47,Try.ntmps47
 go_wp2_with (first|((with_reducible refine gate_dst (N := 5) rfl ?_);refine Kd.R_lit Kd.string _ 9 ?hg (N := 5) ?hd (xs := ([(⟨#[]⟩ : ByteArray),(⟨#[115,117,110]⟩ : ByteArray),(⟨#[78,73,78,69,76,69,84,84,69]⟩ : ByteArray),(⟨#[65,49]⟩ : ByteArray),(⟨#[90,79,79]⟩ : ByteArray),(⟨#[65]⟩ : ByteArray)] : List ByteArray)) (inner := [.string (⟨#[]⟩ : ByteArray),.string (⟨#[115,117,110]⟩ : ByteArray),.string (⟨#[78,73,78,69,76,69,84,84,69]⟩ : ByteArray),.string (⟨#[65,49]⟩ : ByteArray),.string (⟨#[90,79,79]⟩ : ByteArray),.string (⟨#[65]⟩ : ByteArray)]) (ok := fun _ => True) (okp := fun _ => True) ?hr ?hp (fun _ hk => hk) trivial (Below.refl _ _) (Nat.le_refl _) (by simp) ?_;(case hd => rfl);(case hg => rfl);(case hr => first|(go_simp;done)|(go_simp;rfl));(case hp => exact (Reps.one (show Kd.M Kd.string _ _ _ (⟨#[]⟩ : ByteArray) [.string (⟨#[]⟩ : ByteArray)] from rfl) (Reps.one (show Kd.M Kd.string _ _ _ (⟨#[115,117,110]⟩ : ByteArray) [.string (⟨#[115,117,110]⟩ : ByteArray)] from rfl) (Reps.one (show Kd.M Kd.string _ _ _ (⟨#[78,73,78,69,76,69,84,84,69]⟩ : ByteArray) [.string (⟨#[78,73,78,69,76,69,84,84,69]⟩ : ByteArray)] from rfl) (Reps.one (show Kd.M Kd.string _ _ _ (⟨#[65,49]⟩ : ByteArray) [.string (⟨#[65,49]⟩ : ByteArray)] from rfl) (Reps.one (show Kd.M Kd.string _ _ _ (⟨#[90,79,79]⟩ : ByteArray) [.string (⟨#[90,79,79]⟩ : ByteArray)] from rfl) (Reps.one (show Kd.M Kd.string _ _ _ (⟨#[65]⟩ : ByteArray) [.string (⟨#[65]⟩ : ByteArray)] from rfl) (Reps.none _ _))))))));intro v102 w4 ho5 hb hg_ hnew_;clear hg_ hnew_;(first|rw [← Ny101.out] at ho5|(simp only [Int.reduceToNat] at ho5;rw [← Ny101.out] at ho5));have HO103 := Aside0.mk (Kd.R_lower ho5 (keep_size (w := w) (g := g) (row := none) (ZW HK)));replace HK := Aside0.mk (KeepBut.trans (ZW HK) (KeepBut.of_below hb g none) (.inl rfl));replace HB := Aside0.mk (below_step (by repeat (first|(with_reducible first|exact HB.out|apply zbA|apply zbB|apply zbC|refine below_set ?_ (IsS49.ge HI0.out))|exact HB.out)) hb);replace HI0 := Aside0.mk (IsS49.below (ZS HI0) hb);clear hb ho5;obtain ⟨Ao6,co6,eo6⟩ := Kd.R_slice HO103.out;subst eo6)|((with_reducible refine gate_callee (f := 68) rfl ?_);refine goesM_ (some 6) Try.func68 #[.pointer (some ⟨g,0,none⟩),.slice Ao6 y101.length co6] ?_;(with_reducible refine (spec_l1Cur_of.calls g s0_0 s0_1 s0_2 _ _ y101 t104 t105 t106 w0 _ ?side1 ?side2 ?side3 ?side4 ?side5 A2.out).mono ?_);(case side1 => repeat (first|(with_reducible first|exact HI0.out|apply zsA|apply zsB|apply zsC|apply zsD|apply zsE)|exact HI0.out));(case side2 => repeat (first|(with_reducible first|exact HB.out|apply zbA|apply zbB|apply zbC|refine below_set ?_ (IsS49.ge HI0.out))|exact HB.out));(case side3 => exact ZR (Kd.R_reads' HO103.out).2.2);(case side4 => exact (Kd.R_reads' HO103.out).2.1);(case side5 => exact far_slice (IsS49.own_ne HI0.out HO103.out (by decide)));rintro e w7 ⟨rfl,hi,hb,hk⟩;refine ⟨_,rfl,?_⟩;replace HO103 := Aside0.mk (Kd.R_mono (Kd.R_keep (IsS49.apart (show IsS49 w0 _ g s0_0 s0_1 s0_2 from ZS HI0) (ZK HO103) (by decide)) hk (fun _ h => h.2)) (fun _ h => h.1));replace HK := Aside0.mk (KeepBut.trans (ZW HK) hk (.inl rfl));replace HB := Aside0.mk (hb);replace HI0 := Aside0.mk (hi);(try clear hb))|((with_reducible refine gate_dst (N := 7) rfl ?_);refine Kd.R_lit Kd.string _ 9 ?hg (N := 7) ?hd (xs := ([(⟨#[83,85,78]⟩ : ByteArray),(⟨#[72,79,85,83,69]⟩ : ByteArray),(⟨#[84,82,69,69]⟩ : ByteArray),(⟨#[82,65,73,78]⟩ : ByteArray),(⟨#[66,79,79,75]⟩ : ByteArray),(⟨#[83,85,78]⟩ : ByteArray),t104] : List ByteArray)) (inner := [.string (⟨#[83,85,78]⟩ : ByteArray),.string (⟨#[72,79,85,83,69]⟩ : ByteArray),.string (⟨#[84,82,69,69]⟩ : ByteArray),.string (⟨#[82,65,73,78]⟩ : ByteArray),.string (⟨#[66,79,79,75]⟩ : ByteArray),.string (⟨#[83,85,78]⟩ : ByteArray),.string t104]) (ok := fun _ => True) (okp := fun _ => True) ?hr ?hp (fun _ hk => hk) trivial (Below.refl _ _) (Nat.le_refl _) (by simp) ?_;(case hd => rfl);(case hg => rfl);(case hr => first|(go_simp;done)|(go_simp;rfl));(case hp => exact (Reps.one (show Kd.M Kd.string _ _ _ (⟨#[83,85,78]⟩ : ByteArray) [.string (⟨#[83,85,78]⟩ : ByteArray)] from rfl) (Reps.one (show Kd.M Kd.string _ _ _ (⟨#[72,79,85,83,69]⟩ : ByteArray) [.string (⟨#[72,79,85,83,69]⟩ : ByteArray)] from rfl) (Reps.one (show Kd.M Kd.string _ _ _ (⟨#[84,82,69,69]⟩ : ByteArray) [.string (⟨#[84,82,69,69]⟩ : ByteArray)] from rfl) (Reps.one (show Kd.M Kd.string _ _ _ (⟨#[82,65,73,78]⟩ : ByteArray) [.string (⟨#[82,65,73,78]⟩ : ByteArray)] from rfl) (Reps.one (show Kd.M Kd.string _ _ _ (⟨#[66,79,79,75]⟩ : ByteArray) [.string (⟨#[66,79,79,75]⟩ : ByteArray)] from rfl) (Reps.one (show Kd.M Kd.string _ _ _ (⟨#[83,85,78]⟩ : ByteArray) [.string (⟨#[83,85,78]⟩ : ByteArray)] from rfl) (Reps.one (show Kd.M Kd.string _ _ _ t104 [.string t104] from rfl) (Reps.none _ _)))))))));intro v108 w8 ho9 hb hg_ hnew_;clear hg_ hnew_;(first|rw [← Ny107.out] at ho9|(simp only [Int.reduceToNat] at ho9;rw [← Ny107.out] at ho9));have HO109 := Aside0.mk (Kd.R_lower (Kd.R_new' ho9 (Kd.R_lt (ZK HO103))) (keep_size (w := w) (g := g) (row := none) (ZW HK)));replace HO103 := Aside0.mk (Kd.R_elder' (ZK HO103) (Kd.R_base ho9) hb);replace HK := Aside0.mk (KeepBut.trans (ZW HK) (KeepBut.of_below hb g none) (.inl rfl));replace HB := Aside0.mk (below_step (by repeat (first|(with_reducible first|exact HB.out|apply zbA|apply zbB|apply zbC|refine below_set ?_ (IsS49.ge HI0.out))|exact HB.out)) hb);replace HI0 := Aside0.mk (IsS49.below (ZS HI0) hb);clear hb ho9;obtain ⟨Ao10,co10,eo10⟩ := Kd.R_slice HO109.out;subst eo10)|((with_reducible refine gate_callee (f := 68) rfl ?_);refine goesM_ (some 8) Try.func68 #[.pointer (some ⟨g,0,none⟩),.slice Ao10 y107.length co10] ?_;(with_reducible refine (spec_l1Cur_of.calls g s0_0 t105 t106 _ _ y107 t110 t111 t112 w0 _ ?side1 ?side2 ?side3 ?side4 ?side5 A3.out).mono ?_);(case side1 => repeat (first|(with_reducible first|exact HI0.out|apply zsA|apply zsB|apply zsC|apply zsD|apply zsE)|exact HI0.out));(case side2 => repeat (first|(with_reducible first|exact HB.out|apply zbA|apply zbB|apply zbC|refine below_set ?_ (IsS49.ge HI0.out))|exact HB.out));(case side3 => exact ZR (Kd.R_reads' HO109.out).2.2);(case side4 => exact (Kd.R_reads' HO109.out).2.1);(case side5 => exact far_slice (IsS49.own_ne HI0.out HO109.out (by decide)));rintro e w11 ⟨rfl,hi,hb,hk⟩;refine ⟨_,rfl,?_⟩;replace HO103 := Aside0.mk (Kd.R_mono (Kd.R_keep (IsS49.apart (show IsS49 w0 _ g s0_0 t105 t106 from ZS HI0) (ZK HO103) (by decide)) hk (fun _ h => h.2)) (fun _ h => h.1));replace HO109 := Aside0.mk (Kd.R_mono (Kd.R_keep (IsS49.apart (show IsS49 w0 _ g s0_0 t105 t106 from ZS HI0) (ZK HO109) (by decide)) hk (fun _ h => h.2)) (fun _ h => h.1));replace HK := Aside0.mk (KeepBut.trans (ZW HK) hk (.inl rfl));replace HB := Aside0.mk (hb);replace HI0 := Aside0.mk (hi);(try clear hb)))
 go_ret
 exact ⟨by first|rfl|(simp [*,errW_none,errW_some] <;> rfl),ZS HI0,by repeat (first|(with_reducible first|exact HB.out|apply zbA|apply zbB|apply zbC|refine below_set ?_ (IsS49.ge HI0.out))|exact HB.out),ZW HK⟩

/-! ### spec_l1Own: function 84 -/
def spec_l1Own.f (l0 : List Int) : Option (List Int) := (some (([] : List Int) : List Int)).bind fun y101 => (if y101.length + l0.length < 17592186044416 then (some (y101 ++ l0)) else (none))
set_option maxHeartbeats 3000000 in
set_option maxRecDepth 100000 in
theorem spec_l1Own.calls (A0 : Option Addr) (c0 : Nat) (l0 : List Int) (r : List Int) (w : World) (hr0 : Kd.C (Kd.int .i64) w A0 l0.length l0) (hc0 : l0.length ≤ c0) (h : spec_l1Own.f l0 = some r) :
  Calls Try.prog 84 #[.slice A0 l0.length c0] w fun e w' => ∃ v0_ : Value,e = .returned (v0_) ∧ Kd.R (Kd.int .i64) 3 w' w.heap.size (fun _ => True) v0_ r ∧ Below w.heap.size w w' := by
 have HR0 := Aside0.mk hr0
 have HC0 := Aside0.mk hc0
 clear hr0 hc0
 have HB := Aside0.mk (Below.refl w.heap.size w)
 have H : ((some (([] : List Int) : List Int)).bind fun y101 => (if y101.length + l0.length < 17592186044416 then (some (y101 ++ l0)) else (none))) = some r := h
 clear h
 obtain ⟨y101,hy101⟩ : ∃ y_ : List Int,y_ = (([] : List Int)) := ⟨_,rfl⟩
 replace H : (if y101.length + l0.length < 17592186044416 then (some (y101 ++ l0)) else (none)) = some r := by first|(rw [hy101];with_reducible exact H)|(have H2_ := (Option.bind_some _ _).symm.trans H;rw [hy101];with_reducible exact H2_)|(have H2_ := (Option.bind_some _ _).symm.trans H;with_reducible exact H2_)|with_reducible exact H|(rw [hy101];exact H)|exact H
 have Ny101 := Aside0.mk hy101
 clear hy101
 by_cases c2 : y101.length + l0.length < 17592186044416;rotate_left
 ·rw [if_neg c2] at H
  exact absurd H (by simp)

 rw [if_pos c2] at H
 have LMc2 := Aside0.mk c2
 clear c2
 obtain ⟨y104,hy104⟩ : ∃ y_ : List Int,y_ = (y101 ++ l0) := ⟨_,rfl⟩
 replace H : (some y104) = some r := by first|(rw [hy104];with_reducible exact H)|(have H2_ := (Option.bind_some _ _).symm.trans H;rw [hy104];with_reducible exact H2_)|(have H2_ := (Option.bind_some _ _).symm.trans H;with_reducible exact H2_)|with_reducible exact H|(rw [hy104];exact H)|exact H
 have Ny104 := Aside0.mk hy104
 clear hy104
 obtain rfl := Option.some.inj H
 go_enter Try.func84,Try.ntmps84
 go_wp2_with (first|((with_reducible refine gate_dst (N := 3) rfl ?_);refine Kd.R_lit (Kd.int .i64) _ 3 ?hg (N := 3) ?hd (xs := ([] : List Int)) (inner := []) (ok := fun _ => True) (okp := fun _ => True) ?hr ?hp (fun _ hk => hk) trivial (Below.refl _ _) (Nat.le_refl _) (by simp) ?_;(case hd => rfl);(case hg => rfl);(case hr => first|(go_simp;done)|(go_simp;rfl));(case hp => exact (Reps.none _ _));intro v102 w3 ho4 hb hg_ hnew_;clear hg_ hnew_;(first|rw [← Ny101.out] at ho4|(simp only [Int.reduceToNat] at ho4;rw [← Ny101.out] at ho4));have HO103 := Aside0.mk (Kd.R_lower ho4 (below_size (ZQ HB)));replace HB := Aside0.mk (below_step (ZQ HB) hb);clear hb ho4)|((with_reducible refine gate_builtin (b := .append) (xs := #[.tmp 3,.tmp 4]) rfl ?_);at_builtin;refine Kd.R_append_rows (Kd.int .i64) (w0 := w) w.heap.size rfl (.tmp 3) (.tmp 4) 32 3 (.int .i64 0) 8 rfl Try.underlying32 info3 rfl (by decide) (by omega) v102 y101 l0 _ _ _ (fun _ => True) (fun _ => False) rfl rfl ?aO ?aR (fun _ _ h => h) (fun _ h => h.elim) ?aF ?aB ?aS ?aL ?_;(case aR => exact ZR (Kd.C_below HR0.out HB.out));(case aB => exact (ZQ HB));(case aF => exact (fun _ _ => trivial));(case aO => exact (ZK HO103));(case aS => exact (below_size (ZQ HB)));(case aL => have := LMc2.out;omega);intro v105 w5 ho hb hg hat;rw [← Ny104.out] at ho;replace HB := Aside0.mk (hb);have HO106 := Aside0.mk (ho);clear HO103;clear ho hb hg hat))
 go_ret
 exact ⟨_,by first|rfl|(simp [*,errW_none,errW_some] <;> rfl),ZK HO106,ZQ HB⟩
end Go.Proofs.Ytgnijnlgbelifaa.Q
