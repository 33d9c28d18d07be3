-- Written for the seat Ytkobnljfoedmnaa by a program of this session (wip/tool/gx.py) out of the translation. Lean checks it.
import Derived.Test.YtkobnljfoedmnaaQ0
import Derived.Test.YtkobnljfoedmnaaGCall
import Derived.Test.YtkobnljfoedmnaaS137
import Derived.Lib.Bytealg
import Derived.Test.YtkobnljfoedmnaaWTab
import Derived.Test.YtkobnljfoedmnaaWApart
import Derived.Test.YtkobnljfoedmnaaWFoot
import Derived.Test.YtkobnljfoedmnaaWKept
import Derived.Test.YtkobnljfoedmnaaWShare
import Derived.Test.YtkobnljfoedmnaaWN
import Derived.Test.YtkobnljfoedmnaaWEqStruct
import Derived.Test.YtkobnljfoedmnaaWRepsOne
namespace Go.Proofs.Ytkobnljfoedmnaa.Q
open Go.RowKit Go.Proofs.YtkobnljfoedmnaaW.PrintWords Go.Proofs.YtkobnljfoedmnaaW.PrintLast Go.Proofs.YtkobnljfoedmnaaW.PrintMore Go.Proofs.YtkobnljfoedmnaaW.GCall
attribute [local go_sem] max2_int min2_int max_two min_two max_three min_three max_four min_four   -- for this text's walks alone
set_option linter.unusedVariables false
set_option linter.unusedSimpArgs false

theorem eqA24 (d : Nat) (w : World) (x0 y0 : ByteArray) (x1 y1 : Int) (x2 y2 : Int) :
  (Op.equalIn (d + 2) 24 (.agg #[.string x0,.int .i64 x1,.int .i64 x2]) (.agg #[.string y0,.int .i64 y1,.int .i64 y2])).run Try.prog w = .ok (x0.toList == y0.toList && (x1 == y1 && (x2 == y2))) w := by
 refine eqA_of Try.underlying24 (by kernel_rfl) ?_
 refine eqf_cons (by rfl) (by go_simp;rfl) (by go_simp;rfl) (by go_simp) ?_
 refine eqf_cons (by rfl) (by go_simp;rfl) (by go_simp;rfl) (by go_simp) ?_
 exact eqf_last (by rfl) (by go_simp;rfl) (by go_simp;rfl) (by go_simp)
/-- A state of type 67 at block g of W; what its slices lead to came in by w0. -/
def IsS67 (w0 W : World) (g : Nat) (f0 : List Int) (f1 : Int) (f2 : Int) : Prop := ∃ A0 c0,W.heap[g]? = some (.cells #[.slice A0 f0.length c0,.int .i64 f1,.int .u64 f2] 67 (0,0)) ∧ w0.heap.size ≤ g ∧ Kd.C (Kd.int .u8) w0 A0 f0.length f0
theorem IsS67.grown {w0 W : World} {g : Nat} {f0 : List Int} {f1 : Int} {f2 : Int} {W1 : World} {row : Option Nat} (h : IsS67 w0 W g f0 f1 f2) (hw : W.grownBy W1 row) (hne : some g ≠ row) : IsS67 w0 W1 g f0 f1 f2 := by
 obtain ⟨A0,c0,hb,hg,hr0⟩ := h
 exact ⟨A0,c0,blk_grown hb hw hne,hg,hr0⟩
theorem IsS67.own_neN {w0 W : World} {g : Nat} {f0 : List Int} {f1 : Int} {f2 : Int} {α : Type} {d : Kd α} {e : Nat} {base : Nat} {ok : Nat → Prop} {v : Value} {xs : List α} (h : IsS67 w0 W g f0 f1 f2) (ho : Kd.N d e W base ok v xs) (ht : e ≠ 67) : some g ≠ v.ownBlock := by
 obtain ⟨A0,c0,hb,hg,hr0⟩ := h
 exact Kd.N_ne ho hb ht
theorem IsS67.fresh {w0 W : World} {g : Nat} {f0 : List Int} {f1 : Int} {f2 : Int} (h : IsS67 w0 W g f0 f1 f2) : ∀ k,W.heap.size ≤ k → k ≠ g := by
 obtain ⟨A0,c0,hb,hg,hr0⟩ := h
 exact Kd.freshB hb
theorem IsS67.kept {w0 W : World} {g : Nat} {f0 : List Int} {f1 : Int} {f2 : Int} {W1 : World} {S : Nat → Prop} (h : IsS67 w0 W g f0 f1 f2) (hk : Kept W W1 S) (hne : ¬ S g) : IsS67 w0 W1 g f0 f1 f2 := by
 obtain ⟨A0,c0,hb,hg,hr0⟩ := h
 exact ⟨A0,c0,blk_kept hb hk hne,hg,hr0⟩
theorem IsS67.below {w0 W : World} {g : Nat} {f0 : List Int} {f1 : Int} {f2 : Int} {W1 : World} (h : IsS67 w0 W g f0 f1 f2) (hw : Below W.heap.size W W1) : IsS67 w0 W1 g f0 f1 f2 := h.grown (grown_of_below hw none) (by simp)
theorem IsS67.alloc {w0 W : World} {g : Nat} {f0 : List Int} {f1 : Int} {f2 : Int} (h : IsS67 w0 W g f0 f1 f2) (o : Obj) : IsS67 w0 (W.alloc o) g f0 f1 f2 := h.below (below_alloc (Below.refl _ _) o)
theorem IsS67.drewN {w0 W : World} {g : Nat} {f0 : List Int} {f1 : Int} {f2 : Int} (h : IsS67 w0 W g f0 f1 f2) (m : Nat) : IsS67 w0 (W.drewN m) g f0 f1 f2 := h
theorem IsS67.drew {w0 W : World} {g : Nat} {f0 : List Int} {f1 : Int} {f2 : Int} (h : IsS67 w0 W g f0 f1 f2) : IsS67 w0 W.drew g f0 f1 f2 := h
theorem IsS67.at_ {w0 W : World} {g : Nat} {f0 : List Int} {f1 : Int} {f2 : Int} {w' : World} {m : Nat} (hq : W.drewN m = w') (h : IsS67 w0 W g f0 f1 f2) : IsS67 w0 w' g f0 f1 f2 := by subst hq;exact IsS67.drewN h m
theorem IsS67.apart {w0 W : World} {g : Nat} {f0 : List Int} {f1 : Int} {f2 : Int} {α : Type} {d : Kd α} {e : Nat} {base : Nat} {ok : Nat → Prop} {v : Value} {xs : List α} (h : IsS67 w0 W g f0 f1 f2) (ho : d.R e W base ok v xs) (ht : ∀ q,q ∈ e :: d.E → q ≠ 67) : d.R e W base (fun k => ok k ∧ k ≠ g) v xs := by
 obtain ⟨A0,c0,hb,hg,hr0⟩ := h
 exact Kd.R_types ho hb ht
theorem IsS67.own_ne {w0 W : World} {g : Nat} {f0 : List Int} {f1 : Int} {f2 : Int} {α : Type} {d : Kd α} {e : Nat} {base : Nat} {ok : Nat → Prop} {v : Value} {xs : List α} (h : IsS67 w0 W g f0 f1 f2) (ho : d.R e W base ok v xs) (ht : e ≠ 67) : some g ≠ v.ownBlock := by
 obtain ⟨A0,c0,hb,hg,hr0⟩ := h
 exact Kd.R_ne ho hb ht
theorem IsS67.apartQ {w0 W : World} {g : Nat} {f0 : List Int} {f1 : Int} {f2 : Int} {α : Type} {d : Kd α} {e : Nat} {base : Nat} {ok : Nat → Prop} {v : Value} {xs : List α} (h : IsS67 w0 W g f0 f1 f2) (ho : d.Q e W base ok v xs) (ht : ∀ q,q ∈ e :: d.E → q ≠ 67) : d.Q e W base (fun k => ok k ∧ k ≠ g) v xs := by
 obtain ⟨A0,c0,hb,hg,hr0⟩ := h
 exact Kd.Q_types ho hb ht
theorem IsS67.own_neQ {w0 W : World} {g : Nat} {f0 : List Int} {f1 : Int} {f2 : Int} {α : Type} {d : Kd α} {e : Nat} {base : Nat} {ok : Nat → Prop} {v : Value} {xs : List α} (h : IsS67 w0 W g f0 f1 f2) (ho : d.Q e W base ok v xs) (ht : e ≠ 67) : some g ≠ v.ownBlock := by
 obtain ⟨A0,c0,hb,hg,hr0⟩ := h
 exact Kd.Q_ne ho hb ht
theorem IsS67.apartS {w0 W : World} {g : Nat} {f0 : List Int} {f1 : Int} {f2 : Int} {α : Type} {d : Kd α} {e : Nat} {base : Nat} {ok : Nat → Prop} {v : Value} {xs : List α} (h : IsS67 w0 W g f0 f1 f2) (ho : d.S e W base ok v xs) (ht : ∀ q,q ∈ e :: d.E → q ≠ 67) : d.S e W base (fun k => ok k ∧ k ≠ g) v xs := by
 obtain ⟨A0,c0,hb,hg,hr0⟩ := h
 exact Kd.S_types ho hb ht
theorem IsS67.own_neS {w0 W : World} {g : Nat} {f0 : List Int} {f1 : Int} {f2 : Int} {α : Type} {d : Kd α} {e : Nat} {base : Nat} {ok : Nat → Prop} {v : Value} {xs : List α} (h : IsS67 w0 W g f0 f1 f2) (ho : d.S e W base ok v xs) (ht : e ≠ 67) : some g ≠ v.ownBlock := by
 obtain ⟨A0,c0,hb,hg,hr0⟩ := h
 exact Kd.S_ne ho hb ht
theorem IsS67.lt {w0 W : World} {g : Nat} {f0 : List Int} {f1 : Int} {f2 : Int} (h : IsS67 w0 W g f0 f1 f2) : g < W.heap.size := by
 obtain ⟨A0,c0,hb,hg,hr0⟩ := h
 exact blk_lt hb
theorem IsS67.ge {w0 W : World} {g : Nat} {f0 : List Int} {f1 : Int} {f2 : Int} (h : IsS67 w0 W g f0 f1 f2) : w0.heap.size ≤ g := by
 obtain ⟨A0,c0,hb,hg,hr0⟩ := h
 exact hg
theorem IsS67.ne_blk {w0 W : World} {g : Nat} {f0 : List Int} {f1 : Int} {f2 : Int} {a : Nat} {cs : Array Value} {t : TypeId} {fr : Nat × Nat} (h : IsS67 w0 W g f0 f1 f2) (hb2 : W.heap[a]? = some (.cells cs t fr)) (ht : t ≠ 67) : g ≠ a := by
 obtain ⟨A0,c0,hb,hg,hr0⟩ := h
 rintro rfl
 rw [hb] at hb2
 injection hb2 with hb2
 injection hb2 with _ ht2
 exact ht ht2.symm
theorem IsS67.far {w0 W : World} {g : Nat} {f0 : List Int} {f1 : Int} {f2 : Int} {p : Addr} (h : IsS67 w0 W g f0 f1 f2) (hne : g ≠ p.block) (u : Value) : IsS67 w0 (W.setCell p u) g f0 f1 f2 := by
 obtain ⟨A0,c0,hb,hg,hr0⟩ := h
 exact ⟨A0,c0,blk_far hb hne u,hg,hr0⟩
theorem IsS67.farb {w0 W : World} {g : Nat} {f0 : List Int} {f1 : Int} {f2 : Int} {b j : Nat} {u : Value} (hne : g ≠ b) (h : IsS67 w0 W g f0 f1 f2) : IsS67 w0 (W.setCell ⟨b,j,none⟩ u) g f0 f1 f2 := IsS67.far (p := ⟨b,j,none⟩) h hne u
theorem cellS67_0 {W : World} {g : Nat} {A0 : Option Addr} {c0 : Nat} {f0 : List Int} {f1 : Int} {f2 : Int} (h : W.heap[g]? = some (.cells #[.slice A0 f0.length c0,.int .i64 f1,.int .u64 f2] 67 (0,0))) : W.cell? ⟨g,0,none⟩ = some (.slice A0 f0.length c0) := (blk_cell h 0).trans rfl
theorem cellS67_1 {W : World} {g : Nat} {A0 : Option Addr} {c0 : Nat} {f0 : List Int} {f1 : Int} {f2 : Int} (h : W.heap[g]? = some (.cells #[.slice A0 f0.length c0,.int .i64 f1,.int .u64 f2] 67 (0,0))) : W.cell? ⟨g,1,none⟩ = some (.int .i64 f1) := (blk_cell h 1).trans rfl
theorem IsS67.set_1 {w0 W : World} {g : Nat} {f0 : List Int} {f1 : Int} {f2 : Int} (h : IsS67 w0 W g f0 f1 f2) (x : Int) : IsS67 w0 (W.setCell ⟨g,1,none⟩ (.int .i64 x)) g f0 x f2 := by
 obtain ⟨A0,c0,hb,hg,hr0⟩ := h
 exact ⟨A0,c0,by simpa using blk_set hb 1 (.int .i64 x),hg,hr0⟩
theorem cellS67_2 {W : World} {g : Nat} {A0 : Option Addr} {c0 : Nat} {f0 : List Int} {f1 : Int} {f2 : Int} (h : W.heap[g]? = some (.cells #[.slice A0 f0.length c0,.int .i64 f1,.int .u64 f2] 67 (0,0))) : W.cell? ⟨g,2,none⟩ = some (.int .u64 f2) := (blk_cell h 2).trans rfl
theorem IsS67.set_2 {w0 W : World} {g : Nat} {f0 : List Int} {f1 : Int} {f2 : Int} (h : IsS67 w0 W g f0 f1 f2) (x : Int) : IsS67 w0 (W.setCell ⟨g,2,none⟩ (.int .u64 x)) g f0 f1 x := by
 obtain ⟨A0,c0,hb,hg,hr0⟩ := h
 exact ⟨A0,c0,by simpa using blk_set hb 2 (.int .u64 x),hg,hr0⟩
theorem IsS67.new (w0 W : World) (A0 : Option Addr) (c0 : Nat) (f0 : List Int) (f1 : Int) (f2 : Int) (hB : Below w0.heap.size w0 W) (hr0 : Kd.C (Kd.int .u8) w0 A0 f0.length f0) : IsS67 w0 (W.alloc (.cells #[.slice A0 f0.length c0,.int .i64 f1,.int .u64 f2] 67)) W.heap.size f0 f1 f2 := ⟨A0,c0,by simpa using heap_alloc_new W _,hB.size,hr0⟩
theorem zsA {w0 W : World} {g : Nat} {f0 : List Int} {f1 : Int} {f2 : Int} (h : IsS67 w0 W g f0 f1 f2) (o : Obj) : IsS67 w0 (W.alloc o) g f0 f1 f2 := IsS67.alloc h o
theorem zsB {w0 W : World} {g : Nat} {f0 : List Int} {f1 : Int} {f2 : Int} (h : IsS67 w0 W g f0 f1 f2) (m : Nat) : IsS67 w0 (W.drewN m) g f0 f1 f2 := IsS67.drewN h m
theorem zsC {w0 W : World} {g : Nat} {f0 : List Int} {f1 : Int} {f2 : Int} (h : IsS67 w0 W g f0 f1 f2) : IsS67 w0 W.drew g f0 f1 f2 := IsS67.drew h
theorem zsD {w0 W : World} {g : Nat} {f0 : List Int} {f1 : Int} {f2 : Int} (h : IsS67 w0 W g f0 f1 f2) (x : Int) : IsS67 w0 (W.setCell ⟨g,1,none⟩ (.int .i64 x)) g f0 x f2 := IsS67.set_1 h x
theorem zsE {w0 W : World} {g : Nat} {f0 : List Int} {f1 : Int} {f2 : Int} (h : IsS67 w0 W g f0 f1 f2) (x : Int) : IsS67 w0 (W.setCell ⟨g,2,none⟩ (.int .u64 x)) g f0 f1 x := IsS67.set_2 h x
theorem zsF {w0 W : World} {g : Nat} {f0 : List Int} {f1 : Int} {f2 : Int} {b j : Nat} {u : Value} (hne : g ≠ b) (h : IsS67 w0 W g f0 f1 f2) : IsS67 w0 (W.setCell ⟨b,j,none⟩ u) g f0 f1 f2 := IsS67.farb hne h

/-! ### spec_l1Cur_next: function 77 -/
def spec_l1Cur_next.f (s0_0 : List Int) (s0_1 : Int) (s0_2 : Int) : Option (Int × Int × Int) := if s0_1 < (s0_0.length : Int) then (if 0 ≤ s0_1 then (if (wrap64 (s0_1 + 1)) ≤ (s0_0.length : Int) then (some (wrap64 (rd s0_0 s0_1),wrap64 (s0_1 + 1),IntKind.u64.wrap ((IntKind.u64.wrap ((IntKind.u64.wrap (s0_2 * 6364136223846793005)) + (IntKind.u64.wrap (wrap64 (rd s0_0 s0_1))))) + 1442695040888963407))) else (some (wrap64 (Go.bits .and .u64 ((IntKind.u64.wrap ((IntKind.u64.wrap ((IntKind.u64.wrap (s0_2 * 6364136223846793005)) + (IntKind.u64.wrap (wrap64 (rd s0_0 s0_1))))) + 1442695040888963407)) / 1099511627776) 255),wrap64 (s0_1 + 1),IntKind.u64.wrap ((IntKind.u64.wrap ((IntKind.u64.wrap (s0_2 * 6364136223846793005)) + (IntKind.u64.wrap (wrap64 (rd s0_0 s0_1))))) + 1442695040888963407)))) else (none)) else (if (wrap64 (s0_1 + 1)) ≤ (s0_0.length : Int) then (some (0,wrap64 (s0_1 + 1),IntKind.u64.wrap ((IntKind.u64.wrap ((IntKind.u64.wrap (s0_2 * 6364136223846793005)))) + 1442695040888963407))) else (some (wrap64 (Go.bits .and .u64 ((IntKind.u64.wrap ((IntKind.u64.wrap ((IntKind.u64.wrap (s0_2 * 6364136223846793005)))) + 1442695040888963407)) / 1099511627776) 255),wrap64 (s0_1 + 1),IntKind.u64.wrap ((IntKind.u64.wrap ((IntKind.u64.wrap (s0_2 * 6364136223846793005)))) + 1442695040888963407))))
set_option maxHeartbeats 3000000 in
set_option maxRecDepth 100000 in
theorem spec_l1Cur_next.calls (g : Nat) (s0_0 : List Int) (s0_1 : Int) (s0_2 : Int) (r1 : Int) (r2 : Int) (r3 : Int) (w0 w : World) (hI : IsS67 w0 w g s0_0 s0_1 s0_2) (hB : Below w0.heap.size w0 w) (h : spec_l1Cur_next.f s0_0 s0_1 s0_2 = some (r1,r2,r3)) :
  Calls Try.prog 77 #[.pointer (some ⟨g,0,none⟩)] w fun e w' => e = .returned (.int .i64 r1) ∧ IsS67 w0 w' g s0_0 r2 r3 ∧ Below w0.heap.size w0 w' ∧ KeepBut w w' g none := by
 have HI0 := Aside0.mk hI
 have HK := Aside0.mk (KeepBut.refl w g none)
 have HL := Aside0.mk hB.size
 clear hI
 have HW0 := Aside0.mk hB.size
 have HB := Aside0.mk hB
 clear hB
 have H : (if s0_1 < (s0_0.length : Int) then (if 0 ≤ s0_1 then (if (wrap64 (s0_1 + 1)) ≤ (s0_0.length : Int) then (some (wrap64 (rd s0_0 s0_1),wrap64 (s0_1 + 1),IntKind.u64.wrap ((IntKind.u64.wrap ((IntKind.u64.wrap (s0_2 * 6364136223846793005)) + (IntKind.u64.wrap (wrap64 (rd s0_0 s0_1))))) + 1442695040888963407))) else (some (wrap64 (Go.bits .and .u64 ((IntKind.u64.wrap ((IntKind.u64.wrap ((IntKind.u64.wrap (s0_2 * 6364136223846793005)) + (IntKind.u64.wrap (wrap64 (rd s0_0 s0_1))))) + 1442695040888963407)) / 1099511627776) 255),wrap64 (s0_1 + 1),IntKind.u64.wrap ((IntKind.u64.wrap ((IntKind.u64.wrap (s0_2 * 6364136223846793005)) + (IntKind.u64.wrap (wrap64 (rd s0_0 s0_1))))) + 1442695040888963407)))) else (none)) else (if (wrap64 (s0_1 + 1)) ≤ (s0_0.length : Int) then (some (0,wrap64 (s0_1 + 1),IntKind.u64.wrap ((IntKind.u64.wrap ((IntKind.u64.wrap (s0_2 * 6364136223846793005)))) + 1442695040888963407))) else (some (wrap64 (Go.bits .and .u64 ((IntKind.u64.wrap ((IntKind.u64.wrap ((IntKind.u64.wrap (s0_2 * 6364136223846793005)))) + 1442695040888963407)) / 1099511627776) 255),wrap64 (s0_1 + 1),IntKind.u64.wrap ((IntKind.u64.wrap ((IntKind.u64.wrap (s0_2 * 6364136223846793005)))) + 1442695040888963407))))) = some (r1,r2,r3) := h
 clear h
 by_cases c2 : s0_1 < (s0_0.length : Int)
 ·rw [if_pos c2] at H
  have c2b0 : decide (s0_1 < (s0_0.length : Int)) = true := decide_eq_true c2
  clear c2
  by_cases c3 : 0 ≤ s0_1
  ·rw [if_pos c3] at H
   have c3b0 : decide (0 ≤ s0_1) = true := decide_eq_true c3
   clear c3
   by_cases c4 : (wrap64 (s0_1 + 1)) ≤ (s0_0.length : Int)
   ·rw [if_pos c4] at H
    have c4b0 : decide ((wrap64 (s0_1 + 1)) ≤ (s0_0.length : Int)) = true := decide_eq_true c4
    clear c4
    simp only [Option.some.injEq,Prod.mk.injEq] at H
    obtain ⟨rfl,rfl,rfl⟩ := H
    obtain ⟨ASz5_0,cSz5_0,HGz5,hgz5,HSz5_0⟩ := HI0.out
    have hcz5_0 := cellS67_0 HGz5
    have hcz5_1 := cellS67_1 HGz5
    have hcz5_2 := cellS67_2 HGz5
    have hfz5_1 := blk_frozen HGz5 1
    have hfz5_2 := blk_frozen HGz5 2
    clear HGz5 hgz5
    have p101 : 0 ≤ (s0_1 : Int) := of_decide_eq_true (by assumption)
    have q101 : s0_1 < (s0_0.length : Int) := of_decide_eq_true (by assumption)
    obtain ⟨ad101,e101,hx101_0⟩ := Kd.at_int HSz5_0 s0_1 p101 q101
    cases e101
    replace hx101_0 := pw_cell_below HB.out hx101_0
    replace p101 := eq_true p101
    replace q101 := eq_true q101
    go_enter Try.func77,Try.ntmps77
    go_wp2
    repeat (go_quiet (fail);try go_wp2)
    go_ret
    exact ⟨by first|rfl | (simp [*,errW_none,errW_some] <;> rfl),by repeat (first|(with_reducible first|exact HI0.out | apply zsA | apply zsB | apply zsC | apply zsD | apply zsE) | exact HI0.out),by repeat (first|(with_reducible first|exact HB.out | apply zbA | apply zbB | apply zbC | refine below_set ?_ (IsS67.ge HI0.out)) | exact HB.out),by repeat (first|(with_reducible first|exact HK.out | apply zeA | apply zeB | apply zeC | apply zeD) | exact HK.out)⟩
   ·rw [if_neg c4] at H
    have c4b0 : decide ((wrap64 (s0_1 + 1)) ≤ (s0_0.length : Int)) = false := decide_eq_false c4
    clear c4
    simp only [Option.some.injEq,Prod.mk.injEq] at H
    obtain ⟨rfl,rfl,rfl⟩ := H
    obtain ⟨ASz6_0,cSz6_0,HGz6,hgz6,HSz6_0⟩ := HI0.out
    have hcz6_0 := cellS67_0 HGz6
    have hcz6_1 := cellS67_1 HGz6
    have hcz6_2 := cellS67_2 HGz6
    have hfz6_1 := blk_frozen HGz6 1
    have hfz6_2 := blk_frozen HGz6 2
    clear HGz6 hgz6
    have p101 : 0 ≤ (s0_1 : Int) := of_decide_eq_true (by assumption)
    have q101 : s0_1 < (s0_0.length : Int) := of_decide_eq_true (by assumption)
    obtain ⟨ad101,e101,hx101_0⟩ := Kd.at_int HSz6_0 s0_1 p101 q101
    cases e101
    replace hx101_0 := pw_cell_below HB.out hx101_0
    replace p101 := eq_true p101
    replace q101 := eq_true q101
    go_enter Try.func77,Try.ntmps77
    go_wp2
    repeat (go_quiet (fail);try go_wp2)
    go_ret
    exact ⟨by first|rfl | (simp [*,errW_none,errW_some] <;> rfl),by repeat (first|(with_reducible first|exact HI0.out | apply zsA | apply zsB | apply zsC | apply zsD | apply zsE) | exact HI0.out),by repeat (first|(with_reducible first|exact HB.out | apply zbA | apply zbB | apply zbC | refine below_set ?_ (IsS67.ge HI0.out)) | exact HB.out),by repeat (first|(with_reducible first|exact HK.out | apply zeA | apply zeB | apply zeC | apply zeD) | exact HK.out)⟩
  ·rw [if_neg c3] at H
   exact absurd H (by simp)
 ·rw [if_neg c2] at H
  have c2b0 : decide (s0_1 < (s0_0.length : Int)) = false := decide_eq_false c2
  clear c2
  by_cases c7 : (wrap64 (s0_1 + 1)) ≤ (s0_0.length : Int)
  ·rw [if_pos c7] at H
   have c7b0 : decide ((wrap64 (s0_1 + 1)) ≤ (s0_0.length : Int)) = true := decide_eq_true c7
   clear c7
   simp only [Option.some.injEq,Prod.mk.injEq] at H
   obtain ⟨rfl,rfl,rfl⟩ := H
   obtain ⟨ASz8_0,cSz8_0,HGz8,hgz8,HSz8_0⟩ := HI0.out
   have hcz8_0 := cellS67_0 HGz8
   have hcz8_1 := cellS67_1 HGz8
   have hcz8_2 := cellS67_2 HGz8
   have hfz8_1 := blk_frozen HGz8 1
   have hfz8_2 := blk_frozen HGz8 2
   clear HGz8 hgz8
   go_enter Try.func77,Try.ntmps77
   go_wp2
   repeat (go_quiet (fail);try go_wp2)
   go_ret
   exact ⟨by first|rfl | (simp [*,errW_none,errW_some] <;> rfl),by repeat (first|(with_reducible first|exact HI0.out | apply zsA | apply zsB | apply zsC | apply zsD | apply zsE) | exact HI0.out),by repeat (first|(with_reducible first|exact HB.out | apply zbA | apply zbB | apply zbC | refine below_set ?_ (IsS67.ge HI0.out)) | exact HB.out),by repeat (first|(with_reducible first|exact HK.out | apply zeA | apply zeB | apply zeC | apply zeD) | exact HK.out)⟩
  ·rw [if_neg c7] at H
   have c7b0 : decide ((wrap64 (s0_1 + 1)) ≤ (s0_0.length : Int)) = false := decide_eq_false c7
   clear c7
   simp only [Option.some.injEq,Prod.mk.injEq] at H
   obtain ⟨rfl,rfl,rfl⟩ := H
   obtain ⟨ASz9_0,cSz9_0,HGz9,hgz9,HSz9_0⟩ := HI0.out
   have hcz9_0 := cellS67_0 HGz9
   have hcz9_1 := cellS67_1 HGz9
   have hcz9_2 := cellS67_2 HGz9
   have hfz9_1 := blk_frozen HGz9 1
   have hfz9_2 := blk_frozen HGz9 2
   clear HGz9 hgz9
   go_enter Try.func77,Try.ntmps77
   go_wp2
   repeat (go_quiet (fail);try go_wp2)
   go_ret
   exact ⟨by first|rfl | (simp [*,errW_none,errW_some] <;> rfl),by repeat (first|(with_reducible first|exact HI0.out | apply zsA | apply zsB | apply zsC | apply zsD | apply zsE) | exact HI0.out),by repeat (first|(with_reducible first|exact HB.out | apply zbA | apply zbB | apply zbC | refine below_set ?_ (IsS67.ge HI0.out)) | exact HB.out),by repeat (first|(with_reducible first|exact HK.out | apply zeA | apply zeB | apply zeC | apply zeD) | exact HK.out)⟩

/-! ### spec_l1Cur_pick: function 42 -/
def spec_l1Cur_pick.f (s0_0 : List Int) (s0_1 : Int) (s0_2 : Int) (a1 : Int) : Option (Int × Int × Int) := if a1 ≤ 1 then (some (0,s0_1,s0_2)) else ((spec_l1Cur_next.f s0_0 s0_1 s0_2).bind fun bt101 => (if a1 > 200 then ((spec_l1Cur_next.f s0_0 bt101.2.1 bt101.2.2).bind fun bt104 => (if a1 = 0 then (none) else (some (Int.tmod (wrap64 ((wrap64 (bt101.1 * 256)) + bt104.1)) a1,bt104.2.1,bt104.2.2)))) else (if a1 = 0 then (none) else (some (Int.tmod bt101.1 a1,bt101.2.1,bt101.2.2)))))
set_option maxHeartbeats 3000000 in
set_option maxRecDepth 100000 in
theorem spec_l1Cur_pick.calls (g : Nat) (s0_0 : List Int) (s0_1 : Int) (s0_2 : Int) (a1 : Int) (r1 : Int) (r2 : Int) (r3 : Int) (w0 w : World) (hI : IsS67 w0 w g s0_0 s0_1 s0_2) (hB : Below w0.heap.size w0 w) (h : spec_l1Cur_pick.f s0_0 s0_1 s0_2 a1 = some (r1,r2,r3)) :
  Calls Try.prog 42 #[.pointer (some ⟨g,0,none⟩),.int .i64 a1] w fun e w' => e = .returned (.int .i64 r1) ∧ IsS67 w0 w' g s0_0 r2 r3 ∧ Below w0.heap.size w0 w' ∧ KeepBut w w' g none := by
 have HI0 := Aside0.mk hI
 have HK := Aside0.mk (KeepBut.refl w g none)
 have HL := Aside0.mk hB.size
 clear hI
 have HW0 := Aside0.mk hB.size
 have HB := Aside0.mk hB
 clear hB
 have H : (if a1 ≤ 1 then (some (0,s0_1,s0_2)) else ((spec_l1Cur_next.f s0_0 s0_1 s0_2).bind fun bt101 => (if a1 > 200 then ((spec_l1Cur_next.f s0_0 bt101.2.1 bt101.2.2).bind fun bt104 => (if a1 = 0 then (none) else (some (Int.tmod (wrap64 ((wrap64 (bt101.1 * 256)) + bt104.1)) a1,bt104.2.1,bt104.2.2)))) else (if a1 = 0 then (none) else (some (Int.tmod bt101.1 a1,bt101.2.1,bt101.2.2)))))) = some (r1,r2,r3) := h
 clear h
 by_cases c3 : a1 ≤ 1
 ·rw [if_pos c3] at H
  have c3b0 : decide (a1 ≤ 1) = true := decide_eq_true c3
  clear c3
  simp only [Option.some.injEq,Prod.mk.injEq] at H
  obtain ⟨rfl,rfl,rfl⟩ := H
  go_enter Try.func42,Try.ntmps42
  go_wp2
  go_ret
  exact ⟨by first|rfl | (simp [*,errW_none,errW_some] <;> rfl),by repeat (first|(with_reducible first|exact HI0.out | apply zsA | apply zsB | apply zsC | apply zsD | apply zsE) | exact HI0.out),by repeat (first|(with_reducible first|exact HB.out | apply zbA | apply zbB | apply zbC | refine below_set ?_ (IsS67.ge HI0.out)) | exact HB.out),by repeat (first|(with_reducible first|exact HK.out | apply zeA | apply zeB | apply zeC | apply zeD) | exact HK.out)⟩
 ·rw [if_neg c3] at H
  have c3b0 : decide (a1 ≤ 1) = false := decide_eq_false c3
  clear c3
  replace H := Option.bind_eq_some_iff.mp H
  obtain ⟨⟨t101,t102,t103⟩,A40,H⟩ := H
  try dsimp only at H
  have A4 := Aside0.mk A40
  clear A40
  by_cases c5 : a1 > 200
  ·rw [if_pos c5] at H
   have c5b0 : decide (200 < a1) = true := decide_eq_true c5
   clear c5
   replace H := Option.bind_eq_some_iff.mp H
   obtain ⟨⟨t104,t105,t106⟩,A60,H⟩ := H
   try dsimp only at H
   have A6 := Aside0.mk A60
   clear A60
   by_cases c7 : a1 = 0
   ·rw [if_pos c7] at H
    exact absurd H (by simp)
   ·rw [if_neg c7] at H
    have c7b0 : (a1 == 0) = false := beq_eq_false_iff_ne.mpr c7
    have c7b1 : (a1 != 0) = true := bne_iff_ne.mpr c7
    simp only [Option.some.injEq,Prod.mk.injEq] at H
    obtain ⟨rfl,rfl,rfl⟩ := H
    go_enter Try.func42,Try.ntmps42
    go_wp2_with (first|((with_reducible refine gate_callee (f := 77) rfl ?_);refine goesM_ (some 9) Try.func77 #[.pointer (some ⟨g,0,none⟩)] ?_;(with_reducible refine (spec_l1Cur_next.calls g s0_0 s0_1 s0_2 t101 t102 t103 w0 _ ?side1 ?side2 A4.out).mono ?_);(case side1 => repeat (first|(with_reducible first|exact HI0.out | apply zsA | apply zsB | apply zsC | apply zsD | apply zsE) | exact HI0.out));(case side2 => repeat (first|(with_reducible first|exact HB.out | apply zbA | apply zbB | apply zbC | refine below_set ?_ (IsS67.ge HI0.out)) | exact HB.out));rintro e w8 ⟨rfl,hi,hb,hk⟩;refine ⟨_,rfl,?_⟩;have n0_ := Aside0.mk (KeepBut.trans (by repeat (first|(with_reducible first|exact HK.out | apply zeA | apply zeB | apply zeC | apply zeD) | exact HK.out)) hk (.inl rfl));have n1_ := Aside0.mk (hb);have n2_ := Aside0.mk (hi);clear HK;clear HB;clear HI0;have HK := n0_;have HB := n1_;have HI0 := n2_;clear n0_ n1_ n2_;(try clear hb))|((with_reducible refine gate_callee (f := 77) rfl ?_);refine goesM_ (some 15) Try.func77 #[.pointer (some ⟨g,0,none⟩)] ?_;(with_reducible refine (spec_l1Cur_next.calls g s0_0 t102 t103 t104 t105 t106 w0 _ ?side1 ?side2 A6.out).mono ?_);(case side1 => repeat (first|(with_reducible first|exact HI0.out | apply zsA | apply zsB | apply zsC | apply zsD | apply zsE) | exact HI0.out));(case side2 => repeat (first|(with_reducible first|exact HB.out | apply zbA | apply zbB | apply zbC | refine below_set ?_ (IsS67.ge HI0.out)) | exact HB.out));rintro e w9 ⟨rfl,hi,hb,hk⟩;refine ⟨_,rfl,?_⟩;have n0_ := Aside0.mk (KeepBut.trans (by repeat (first|(with_reducible first|exact HK.out | apply zeA | apply zeB | apply zeC | apply zeD) | exact HK.out)) hk (.inl rfl));have n1_ := Aside0.mk (hb);have n2_ := Aside0.mk (hi);clear HK;clear HB;clear HI0;have HK := n0_;have HB := n1_;have HI0 := n2_;clear n0_ n1_ n2_;(try clear hb)))
    go_ret
    exact ⟨by first|rfl | (simp [*,errW_none,errW_some] <;> rfl),by repeat (first|(with_reducible first|exact HI0.out | apply zsA | apply zsB | apply zsC | apply zsD | apply zsE) | exact HI0.out),by repeat (first|(with_reducible first|exact HB.out | apply zbA | apply zbB | apply zbC | refine below_set ?_ (IsS67.ge HI0.out)) | exact HB.out),by repeat (first|(with_reducible first|exact HK.out | apply zeA | apply zeB | apply zeC | apply zeD) | exact HK.out)⟩
  ·rw [if_neg c5] at H
   have c5b0 : decide (200 < a1) = false := decide_eq_false c5
   clear c5
   by_cases c10 : a1 = 0
   ·rw [if_pos c10] at H
    exact absurd H (by simp)
   ·rw [if_neg c10] at H
    have c10b0 : (a1 == 0) = false := beq_eq_false_iff_ne.mpr c10
    have c10b1 : (a1 != 0) = true := bne_iff_ne.mpr c10
    simp only [Option.some.injEq,Prod.mk.injEq] at H
    obtain ⟨rfl,rfl,rfl⟩ := H
    go_enter Try.func42,Try.ntmps42
    go_wp2_with (first|((with_reducible refine gate_callee (f := 77) rfl ?_);refine goesM_ (some 9) Try.func77 #[.pointer (some ⟨g,0,none⟩)] ?_;(with_reducible refine (spec_l1Cur_next.calls g s0_0 s0_1 s0_2 t101 t102 t103 w0 _ ?side1 ?side2 A4.out).mono ?_);(case side1 => repeat (first|(with_reducible first|exact HI0.out | apply zsA | apply zsB | apply zsC | apply zsD | apply zsE) | exact HI0.out));(case side2 => repeat (first|(with_reducible first|exact HB.out | apply zbA | apply zbB | apply zbC | refine below_set ?_ (IsS67.ge HI0.out)) | exact HB.out));rintro e w11 ⟨rfl,hi,hb,hk⟩;refine ⟨_,rfl,?_⟩;have n0_ := Aside0.mk (KeepBut.trans (by repeat (first|(with_reducible first|exact HK.out | apply zeA | apply zeB | apply zeC | apply zeD) | exact HK.out)) hk (.inl rfl));have n1_ := Aside0.mk (hb);have n2_ := Aside0.mk (hi);clear HK;clear HB;clear HI0;have HK := n0_;have HB := n1_;have HI0 := n2_;clear n0_ n1_ n2_;(try clear hb)))
    go_ret
    exact ⟨by first|rfl | (simp [*,errW_none,errW_some] <;> rfl),by repeat (first|(with_reducible first|exact HI0.out | apply zsA | apply zsB | apply zsC | apply zsD | apply zsE) | exact HI0.out),by repeat (first|(with_reducible first|exact HB.out | apply zbA | apply zbB | apply zbC | refine below_set ?_ (IsS67.ge HI0.out)) | exact HB.out),by repeat (first|(with_reducible first|exact HK.out | apply zeA | apply zeB | apply zeC | apply zeD) | exact HK.out)⟩

/-! ### spec_l1Cur_among: function 32 -/
def spec_l1Cur_among.f (s0_0 : List Int) (s0_1 : Int) (s0_2 : Int) (l1 : List Int) : Option (Int × Int × Int) := (spec_l1Cur_pick.f s0_0 s0_1 s0_2 (l1.length : Int)).bind fun bt101 => (if 0 ≤ bt101.1 then (if bt101.1 < (l1.length : Int) then (some (rd l1 bt101.1,bt101.2.1,bt101.2.2)) else (none)) else (none))
set_option maxHeartbeats 3000000 in
set_option maxRecDepth 100000 in
theorem spec_l1Cur_among.calls (g : Nat) (s0_0 : List Int) (s0_1 : Int) (s0_2 : Int) (A1 : Option Addr) (c1 : Nat) (l1 : List Int) (r1 : Int) (r2 : Int) (r3 : Int) (w0 w : World) (hI : IsS67 w0 w g s0_0 s0_1 s0_2) (hB : Below w0.heap.size w0 w) (hr1 : Kd.C (Kd.int .i64) w A1 l1.length l1) (hc1 : l1.length ≤ c1) (hf1 : ∀ ad,A1 = some ad → 0 < l1.length → ad.block ≠ g) (h : spec_l1Cur_among.f s0_0 s0_1 s0_2 l1 = some (r1,r2,r3)) :
  Calls Try.prog 32 #[.pointer (some ⟨g,0,none⟩),.slice A1 l1.length c1] w fun e w' => e = .returned (.int .i64 r1) ∧ IsS67 w0 w' g s0_0 r2 r3 ∧ Below w0.heap.size w0 w' ∧ KeepBut w w' g none := by
 have HR1 := Aside0.mk hr1
 have HC1 := Aside0.mk hc1
 clear hr1 hc1
 have HI0 := Aside0.mk hI
 have HK := Aside0.mk (KeepBut.refl w g none)
 have HL := Aside0.mk hB.size
 clear hI
 have HW0 := Aside0.mk hB.size
 have HB := Aside0.mk hB
 clear hB
 have H : ((spec_l1Cur_pick.f s0_0 s0_1 s0_2 (l1.length : Int)).bind fun bt101 => (if 0 ≤ bt101.1 then (if bt101.1 < (l1.length : Int) then (some (rd l1 bt101.1,bt101.2.1,bt101.2.2)) else (none)) else (none))) = some (r1,r2,r3) := h
 clear h
 replace H := Option.bind_eq_some_iff.mp H
 obtain ⟨⟨t101,t102,t103⟩,A30,H⟩ := H
 try dsimp only at H
 have A3 := Aside0.mk A30
 clear A30
 by_cases c4 : 0 ≤ t101
 ·rw [if_pos c4] at H
  have c4b0 : decide (0 ≤ t101) = true := decide_eq_true c4
  clear c4
  by_cases c5 : t101 < (l1.length : Int)
  ·rw [if_pos c5] at H
   have c5b0 : decide (t101 < (l1.length : Int)) = true := decide_eq_true c5
   clear c5
   simp only [Option.some.injEq,Prod.mk.injEq] at H
   obtain ⟨rfl,rfl,rfl⟩ := H
   go_enter Try.func32,Try.ntmps32
   go_wp2_with (first|((with_reducible refine gate_callee (f := 42) rfl ?_);refine goesM_ (some 9) Try.func42 #[.pointer (some ⟨g,0,none⟩),.int .i64 (l1.length : Int)] ?_;(with_reducible refine (spec_l1Cur_pick.calls g s0_0 s0_1 s0_2 (l1.length : Int) t101 t102 t103 w0 _ ?side1 ?side2 A3.out).mono ?_);(case side1 => repeat (first|(with_reducible first|exact HI0.out | apply zsA | apply zsB | apply zsC | apply zsD | apply zsE) | exact HI0.out));(case side2 => repeat (first|(with_reducible first|exact HB.out | apply zbA | apply zbB | apply zbC | refine below_set ?_ (IsS67.ge HI0.out)) | exact HB.out));rintro e w6 ⟨rfl,hi,hb,hk⟩;refine ⟨_,rfl,?_⟩;have n0_ := Aside0.mk (KeepBut.trans (by repeat (first|(with_reducible first|exact HK.out | apply zeA | apply zeB | apply zeC | apply zeD) | exact HK.out)) hk (.inl rfl));have n1_ := Aside0.mk (hb);have n2_ := Aside0.mk (hi);clear HK;clear HB;clear HI0;have HK := n0_;have HB := n1_;have HI0 := n2_;clear n0_ n1_ n2_;(try clear hb);have p104 : 0 ≤ (t101 : Int) := of_decide_eq_true (by assumption);have q104 : t101 < (l1.length : Int) := of_decide_eq_true (by assumption);obtain ⟨ad104,e104,hx104_0⟩ := Kd.at_int HR1.out t101 p104 q104;cases e104;replace hx104_0 := keep_cell HK.out hx104_0 (by first|(rw [add_block];exact hf1 _ rfl (by omega)) | exact hf1 _ rfl (by omega) | exact hf1 ad104 rfl (by omega));replace p104 := eq_true p104;replace q104 := eq_true q104))
   go_ret
   exact ⟨by first|rfl | (simp [*,errW_none,errW_some] <;> rfl),by repeat (first|(with_reducible first|exact HI0.out | apply zsA | apply zsB | apply zsC | apply zsD | apply zsE) | exact HI0.out),by repeat (first|(with_reducible first|exact HB.out | apply zbA | apply zbB | apply zbC | refine below_set ?_ (IsS67.ge HI0.out)) | exact HB.out),by repeat (first|(with_reducible first|exact HK.out | apply zeA | apply zeB | apply zeC | apply zeD) | exact HK.out)⟩
  ·rw [if_neg c5] at H
   exact absurd H (by simp)
 ·rw [if_neg c4] at H
  exact absurd H (by simp)

/-! ### spec_l1Cur_card: function 31 -/
def spec_l1Cur_card.j0 : Nat → List Int → Int → Int → ByteArray → Int → Int → Option (ByteArray × Int × Int × Int × Int)
 | 0,_,_,_,_,_,_ => none
 | k + 1,x1000,x1001,x1002,x115000,x115001,x115002 => some (x115000,x115001,x115002,x1001,x1002)
def spec_l1Cur_card.f (k : Nat) (s0_0 : List Int) (s0_1 : Int) (s0_2 : Int) (a1 : ByteArray) : Option (ByteArray × Int × Int × Int × Int) := (spec_l1Cur_pick.f s0_0 s0_1 s0_2 6).bind fun bt102 => ((spec_l1Cur_pick.f s0_0 bt102.2.1 bt102.2.2 30).bind fun bt105 => ((spec_l1Cur_among.f s0_0 bt105.2.1 bt105.2.2 (([0,5,10,10,14,bt105.1,99999] : List Int))).bind fun bt111 => ((spec_l1Cur_pick.f s0_0 bt111.2.1 bt111.2.2 60).bind fun bt115 => (if bt115.1 = 0 then ((spec_l1Cur_among.f s0_0 bt115.2.1 bt115.2.2 (([(-1),6] : List Int))).bind fun bt121 => (spec_l1Cur_card.j0 k s0_0 bt121.2.1 bt121.2.2 a1 bt121.1 bt111.1)) else (if bt115.1 = 1 then ((spec_l1Cur_among.f s0_0 bt115.2.1 bt115.2.2 (([(-1),100000,(-9223372036854775808)] : List Int))).bind fun bt127 => (spec_l1Cur_card.j0 k s0_0 bt127.2.1 bt127.2.2 a1 bt102.1 bt127.1)) else (spec_l1Cur_card.j0 k s0_0 bt115.2.1 bt115.2.2 a1 bt102.1 bt111.1))))))
theorem spec_l1Cur_card.mono_l : ∀ k,(∀ y0 y1 y2 y3 y4 y5,LeO (spec_l1Cur_card.j0 k y0 y1 y2 y3 y4 y5) (spec_l1Cur_card.j0 (k + 1) y0 y1 y2 y3 y4 y5))
 | 0 => fun _ _ _ _ _ _ r h => by simp [spec_l1Cur_card.j0] at h
 | k + 1 => by
  have ih0 := spec_l1Cur_card.mono_l k
  ·intro y0 y1 y2 y3 y4 y5
   unfold spec_l1Cur_card.j0
   repeat' first
   | (with_reducible exact ih0 _ _ _ _ _ _)
   | (with_reducible exact LeO.refl _)
   | (with_reducible exact LeO.none _)
   | (with_reducible refine LeO.ite ?_ ?_)
   | (with_reducible refine LeO.bind ?_ (fun _ => ?_))
theorem spec_l1Cur_card.mono : ∀ a0 a1 a2 a3 k,LeO (spec_l1Cur_card.f k a0 a1 a2 a3) (spec_l1Cur_card.f (k + 1) a0 a1 a2 a3) := by
 intro a0 a1 a2 a3 k
 have ih0 := spec_l1Cur_card.mono_l k
 unfold spec_l1Cur_card.f
 repeat' first
   | (with_reducible exact ih0 _ _ _ _ _ _)
   | (with_reducible exact LeO.refl _)
   | (with_reducible exact LeO.none _)
   | (with_reducible refine LeO.ite ?_ ?_)
   | (with_reducible refine LeO.bind ?_ (fun _ => ?_))
set_option maxHeartbeats 3000000 in
set_option maxRecDepth 100000 in
theorem spec_l1Cur_card.calls (k : Nat) (g : Nat) (s0_0 : List Int) (s0_1 : Int) (s0_2 : Int) (a1 : ByteArray) (r1 : ByteArray) (r2 : Int) (r3 : Int) (r4 : Int) (r5 : Int) (w0 w : World) (hI : IsS67 w0 w g s0_0 s0_1 s0_2) (hB : Below w0.heap.size w0 w) (h : spec_l1Cur_card.f k s0_0 s0_1 s0_2 a1 = some (r1,r2,r3,r4,r5)) :
  Calls Try.prog 31 #[.pointer (some ⟨g,0,none⟩),.string a1] w fun e w' => e = .returned (.agg #[.string r1,.int .i64 r2,.int .i64 r3]) ∧ IsS67 w0 w' g s0_0 r4 r5 ∧ Below w0.heap.size w0 w' ∧ KeepBut w w' g none := by
 have hu24 := Try.underlying24
 have HI0 := Aside0.mk hI
 have HK := Aside0.mk (KeepBut.refl w g none)
 have HL := Aside0.mk hB.size
 clear hI
 have HW0 := Aside0.mk hB.size
 have HB := Aside0.mk hB
 clear hB
 have H : ((spec_l1Cur_pick.f s0_0 s0_1 s0_2 6).bind fun bt102 => ((spec_l1Cur_pick.f s0_0 bt102.2.1 bt102.2.2 30).bind fun bt105 => ((spec_l1Cur_among.f s0_0 bt105.2.1 bt105.2.2 (([0,5,10,10,14,bt105.1,99999] : List Int))).bind fun bt111 => ((spec_l1Cur_pick.f s0_0 bt111.2.1 bt111.2.2 60).bind fun bt115 => (if bt115.1 = 0 then ((spec_l1Cur_among.f s0_0 bt115.2.1 bt115.2.2 (([(-1),6] : List Int))).bind fun bt121 => (spec_l1Cur_card.j0 k s0_0 bt121.2.1 bt121.2.2 a1 bt121.1 bt111.1)) else (if bt115.1 = 1 then ((spec_l1Cur_among.f s0_0 bt115.2.1 bt115.2.2 (([(-1),100000,(-9223372036854775808)] : List Int))).bind fun bt127 => (spec_l1Cur_card.j0 k s0_0 bt127.2.1 bt127.2.2 a1 bt102.1 bt127.1)) else (spec_l1Cur_card.j0 k s0_0 bt115.2.1 bt115.2.2 a1 bt102.1 bt111.1))))))) = some (r1,r2,r3,r4,r5) := h
 clear h
 replace H := Option.bind_eq_some_iff.mp H
 obtain ⟨⟨t102,t103,t104⟩,A30,H⟩ := H
 try dsimp only at H
 have A3 := Aside0.mk A30
 clear A30
 replace H := Option.bind_eq_some_iff.mp H
 obtain ⟨⟨t105,t106,t107⟩,A40,H⟩ := H
 try dsimp only at H
 have A4 := Aside0.mk A40
 clear A40
 obtain ⟨y108,hy108⟩ : ∃ y_ : List Int,y_ = (([0,5,10,10,14,t105,99999] : List Int)) := ⟨_,rfl⟩
 replace H : ((spec_l1Cur_among.f s0_0 t106 t107 y108).bind fun bt111 => ((spec_l1Cur_pick.f s0_0 bt111.2.1 bt111.2.2 60).bind fun bt115 => (if bt115.1 = 0 then ((spec_l1Cur_among.f s0_0 bt115.2.1 bt115.2.2 (([(-1),6] : List Int))).bind fun bt121 => (spec_l1Cur_card.j0 k s0_0 bt121.2.1 bt121.2.2 a1 bt121.1 bt111.1)) else (if bt115.1 = 1 then ((spec_l1Cur_among.f s0_0 bt115.2.1 bt115.2.2 (([(-1),100000,(-9223372036854775808)] : List Int))).bind fun bt127 => (spec_l1Cur_card.j0 k s0_0 bt127.2.1 bt127.2.2 a1 t102 bt127.1)) else (spec_l1Cur_card.j0 k s0_0 bt115.2.1 bt115.2.2 a1 t102 bt111.1))))) = some (r1,r2,r3,r4,r5) := by first|(rw [hy108];with_reducible exact H)|(have H2_ := (Option.bind_some _ _).symm.trans H;rw [hy108];with_reducible exact H2_)|(have H2_ := (Option.bind_some _ _).symm.trans H;with_reducible exact H2_) | with_reducible exact H | (rw [hy108];exact H) | exact H
 have Ny108 := Aside0.mk hy108
 clear hy108
 replace H := Option.bind_eq_some_iff.mp H
 obtain ⟨⟨t111,t112,t113⟩,A50,H⟩ := H
 try dsimp only at H
 have A5 := Aside0.mk A50
 clear A50
 replace H := Option.bind_eq_some_iff.mp H
 obtain ⟨⟨t115,t116,t117⟩,A60,H⟩ := H
 try dsimp only at H
 have A6 := Aside0.mk A60
 clear A60
 have HC7 := Aside0.mk H
 clear H
 go_enter Try.func31,Try.ntmps31
 go_upto_block 0 with (first|((with_reducible refine gate_dst (N := 4) rfl ?_);refine box_event ?hg (N := 4) ?hd (cs := #[.string (⟨#[]⟩ : ByteArray),.int .i64 0,.int .i64 0]) (t := 24) ?hr ?_;(case hd => rfl);(case hg => rfl);(case hr => first|(go_simp;done)|(go_simp;rfl));intro gb101 hg w8 hbox hb;have n0_ := Aside0.mk (IsS67.below (by repeat (first|(with_reducible first|exact HI0.out | apply zsA | apply zsB | apply zsC | apply zsD | apply zsE) | exact HI0.out)) hb);have n1_ := Aside0.mk (KeepBut.trans (by repeat (first|(with_reducible first|exact HK.out | apply zeA | apply zeB | apply zeC | apply zeD) | exact HK.out)) (KeepBut.of_below hb g none) (.inl rfl));have n2_ := Aside0.mk (below_step (by repeat (first|(with_reducible first|exact HB.out | apply zbA | apply zbB | apply zbC | refine below_set ?_ (IsS67.ge HI0.out)) | exact HB.out)) hb);have n3_ := Aside0.mk (hbox);have n4_ := Aside0.mk ((by rw [hg];exact (keep_size (w := w) (g := g) (row := none) (by repeat (first|(with_reducible first|exact HK.out | apply zeA | apply zeB | apply zeC | apply zeD) | exact HK.out))) : w.heap.size ≤ gb101));have n5_ := Aside0.mk ((Nat.le_trans HW0.out (by rw [hg];exact (keep_size (w := w) (g := g) (row := none) (by repeat (first|(with_reducible first|exact HK.out | apply zeA | apply zeB | apply zeC | apply zeD) | exact HK.out))) : w.heap.size ≤ gb101) : w0.heap.size ≤ gb101));have n6_ := Aside0.mk ((by rw [hg];exact Nat.ne_of_lt (IsS67.lt (show IsS67 w0 _ g s0_0 s0_1 s0_2 from by repeat (first|(with_reducible first|exact HI0.out | apply zsA | apply zsB | apply zsC | apply zsD | apply zsE) | exact HI0.out))) : g ≠ gb101));have n7_ := Aside0.mk ((by rw [hg];exact Nat.ne_of_gt (IsS67.lt (show IsS67 w0 _ g s0_0 s0_1 s0_2 from by repeat (first|(with_reducible first|exact HI0.out | apply zsA | apply zsB | apply zsC | apply zsD | apply zsE) | exact HI0.out))) : gb101 ≠ g));clear HI0;clear HK;clear HB;have HI0 := n0_;have HK := n1_;have HB := n2_;have BK101 := n3_;have GW101 := n4_;have GE101 := n5_;have NB0_101 := n6_;have NB101_0 := n7_;clear n0_ n1_ n2_ n3_ n4_ n5_ n6_ n7_;clear hb hbox hg)|((with_reducible refine gate_callee (f := 42) rfl ?_);refine goesM_ (some 8) Try.func42 #[.pointer (some ⟨g,0,none⟩),.int .i64 6] ?_;(with_reducible refine (spec_l1Cur_pick.calls g s0_0 s0_1 s0_2 6 t102 t103 t104 w0 _ ?side1 ?side2 A3.out).mono ?_);(case side1 => repeat (first|(with_reducible first|exact HI0.out | apply zsA | apply zsB | apply zsC | apply zsD | apply zsE | apply zsF NB0_101.out) | exact HI0.out));(case side2 => repeat (first|(with_reducible first|exact HB.out | apply zbA | apply zbB | apply zbC | refine below_set ?_ (IsS67.ge HI0.out) | refine below_set ?_ GE101.out) | exact HB.out));rintro e w9 ⟨rfl,hi,hb,hk⟩;refine ⟨_,rfl,?_⟩;have n0_ := Aside0.mk (KeepBut.blk hk (g' := gb101) (o := .cells #[.string (⟨#[]⟩ : ByteArray),.int .i64 0,.int .i64 0] 24 (0,0)) (by (with_reducible repeat (first|apply zhA | apply zhB | apply zhC));exact BK101.out) NB101_0.out (by simp));have n1_ := Aside0.mk (KeepBut.trans (by repeat (first|(with_reducible first|exact HK.out | apply zeA | apply zeB | apply zeC | apply zeD | refine keep_far ?_ GW101.out _) | exact HK.out)) hk (.inl rfl));have n2_ := Aside0.mk (hb);have n3_ := Aside0.mk (hi);clear BK101;clear HK;clear HB;clear HI0;have BK101 := n0_;have HK := n1_;have HB := n2_;have HI0 := n3_;clear n0_ n1_ n2_ n3_;(try clear hb))|((with_reducible refine gate_callee (f := 42) rfl ?_);refine goesM_ (some 11) Try.func42 #[.pointer (some ⟨g,0,none⟩),.int .i64 30] ?_;(with_reducible refine (spec_l1Cur_pick.calls g s0_0 t103 t104 30 t105 t106 t107 w0 _ ?side1 ?side2 A4.out).mono ?_);(case side1 => repeat (first|(with_reducible first|exact HI0.out | apply zsA | apply zsB | apply zsC | apply zsD | apply zsE | apply zsF NB0_101.out) | exact HI0.out));(case side2 => repeat (first|(with_reducible first|exact HB.out | apply zbA | apply zbB | apply zbC | refine below_set ?_ (IsS67.ge HI0.out) | refine below_set ?_ GE101.out) | exact HB.out));rintro e w10 ⟨rfl,hi,hb,hk⟩;refine ⟨_,rfl,?_⟩;have n0_ := Aside0.mk (KeepBut.blk hk (g' := gb101) (o := .cells #[.string (⟨#[]⟩ : ByteArray),.int .i64 0,.int .i64 0] 24 (0,0)) (by (with_reducible repeat (first|apply zhA | apply zhB | apply zhC));exact BK101.out) NB101_0.out (by simp));have n1_ := Aside0.mk (KeepBut.trans (by repeat (first|(with_reducible first|exact HK.out | apply zeA | apply zeB | apply zeC | apply zeD | refine keep_far ?_ GW101.out _) | exact HK.out)) hk (.inl rfl));have n2_ := Aside0.mk (hb);have n3_ := Aside0.mk (hi);clear BK101;clear HK;clear HB;clear HI0;have BK101 := n0_;have HK := n1_;have HB := n2_;have HI0 := n3_;clear n0_ n1_ n2_ n3_;(try clear hb))|((with_reducible refine gate_dst (N := 12) rfl ?_);refine Kd.R_lit (Kd.int .i64) _ 3 ?hg (N := 12) ?hd (xs := ([0,5,10,10,14,t105,99999] : List Int)) (inner := [.int .i64 0,.int .i64 5,.int .i64 10,.int .i64 10,.int .i64 14,.int .i64 t105,.int .i64 99999]) (ok := fun _ => True) (okp := fun _ => True) ?hr ?hp (fun _ hk => hk) trivial (Below.refl _ _) (Nat.le_refl _) (by simp) ?_;(case hd => rfl);(case hg => rfl);(case hr => first|(go_simp;done)|(go_simp;rfl));(case hp => exact (Reps.one (show Kd.M (Kd.int .i64) _ _ _ 0 [.int .i64 0] from rfl) (Reps.one (show Kd.M (Kd.int .i64) _ _ _ 5 [.int .i64 5] from rfl) (Reps.one (show Kd.M (Kd.int .i64) _ _ _ 10 [.int .i64 10] from rfl) (Reps.one (show Kd.M (Kd.int .i64) _ _ _ 10 [.int .i64 10] from rfl) (Reps.one (show Kd.M (Kd.int .i64) _ _ _ 14 [.int .i64 14] from rfl) (Reps.one (show Kd.M (Kd.int .i64) _ _ _ t105 [.int .i64 t105] from rfl) (Reps.one (show Kd.M (Kd.int .i64) _ _ _ 99999 [.int .i64 99999] from rfl) (Reps.none _ _)))))))));intro v109 w11 ho12 hb hg_ hnew_;clear hg_ hnew_;(first|rw [← Ny108.out] at ho12 | (simp only [Int.reduceToNat] at ho12;rw [← Ny108.out] at ho12));have n0_ := Aside0.mk (Kd.R_lower ho12 (keep_size (w := w) (g := g) (row := none) (by repeat (first|(with_reducible first|exact HK.out | apply zeA | apply zeB | apply zeC | apply zeD | refine keep_far ?_ GW101.out _) | exact HK.out))));have n1_ := Aside0.mk (IsS67.below (by repeat (first|(with_reducible first|exact HI0.out | apply zsA | apply zsB | apply zsC | apply zsD | apply zsE | apply zsF NB0_101.out) | exact HI0.out)) hb);have n2_ := Aside0.mk (blk_below (g := gb101) (o := .cells #[.string (⟨#[]⟩ : ByteArray),.int .i64 0,.int .i64 0] 24 (0,0)) (by (with_reducible repeat (first|apply zhA | apply zhB | apply zhC));exact BK101.out) hb);have n3_ := Aside0.mk (KeepBut.trans (by repeat (first|(with_reducible first|exact HK.out | apply zeA | apply zeB | apply zeC | apply zeD | refine keep_far ?_ GW101.out _) | exact HK.out)) (KeepBut.of_below hb g none) (.inl rfl));have n4_ := Aside0.mk (below_step (by repeat (first|(with_reducible first|exact HB.out | apply zbA | apply zbB | apply zbC | refine below_set ?_ (IsS67.ge HI0.out) | refine below_set ?_ GE101.out) | exact HB.out)) hb);clear HI0;clear BK101;clear HK;clear HB;have HO110 := n0_;have HI0 := n1_;have BK101 := n2_;have HK := n3_;have HB := n4_;clear n0_ n1_ n2_ n3_ n4_;clear hb ho12;obtain ⟨Ao13,co13,eo13⟩ := Kd.R_slice HO110.out;subst eo13)|((with_reducible refine gate_callee (f := 32) rfl ?_);refine goesM_ (some 13) Try.func32 #[.pointer (some ⟨g,0,none⟩),.slice Ao13 y108.length co13] ?_;(with_reducible refine (spec_l1Cur_among.calls g s0_0 t106 t107 _ _ y108 t111 t112 t113 w0 _ ?side1 ?side2 ?side3 ?side4 ?side5 A5.out).mono ?_);(case side1 => repeat (first|(with_reducible first|exact HI0.out | apply zsA | apply zsB | apply zsC | apply zsD | apply zsE | apply zsF NB0_101.out) | exact HI0.out));(case side2 => repeat (first|(with_reducible first|exact HB.out | apply zbA | apply zbB | apply zbC | refine below_set ?_ (IsS67.ge HI0.out) | refine below_set ?_ GE101.out) | exact HB.out));(case side3 => repeat (first|exact (Kd.R_reads' HO110.out).2.2 | (with_reducible refine Kd.C_alloc ?_ _)|(with_reducible refine Kd.C_drewN ?_ _)|(with_reducible refine Kd.C_drew ?_)));(case side4 => exact (Kd.R_reads' HO110.out).2.1);(case side5 => exact far_slice (IsS67.own_ne HI0.out HO110.out (by decide)));rintro e w14 ⟨rfl,hi,hb,hk⟩;refine ⟨_,rfl,?_⟩;have n0_ := Aside0.mk (KeepBut.blk hk (g' := gb101) (o := .cells #[.string (⟨#[]⟩ : ByteArray),.int .i64 0,.int .i64 0] 24 (0,0)) (by (with_reducible repeat (first|apply zhA | apply zhB | apply zhC));exact BK101.out) NB101_0.out (by simp));have n1_ := Aside0.mk (Kd.R_mono (Kd.R_keep (IsS67.apart (show IsS67 w0 _ g s0_0 t106 t107 from by repeat (first|(with_reducible first|exact HI0.out | apply zsA | apply zsB | apply zsC | apply zsD | apply zsE | apply zsF NB0_101.out) | exact HI0.out)) (by (with_reducible repeat (first|apply zkA | apply zkB | apply zkC));exact HO110.out) (by decide)) hk (fun _ h => h.2)) (fun _ h => h.1));have n2_ := Aside0.mk (KeepBut.trans (by repeat (first|(with_reducible first|exact HK.out | apply zeA | apply zeB | apply zeC | apply zeD | refine keep_far ?_ GW101.out _) | exact HK.out)) hk (.inl rfl));have n3_ := Aside0.mk (hb);have n4_ := Aside0.mk (hi);clear BK101;clear HO110;clear HK;clear HB;clear HI0;have BK101 := n0_;have HO110 := n1_;have HK := n2_;have HB := n3_;have HI0 := n4_;clear n0_ n1_ n2_ n3_ n4_;(try clear hb))|((with_reducible refine gate_dst (N := 5) rfl ?_);refine box_event ?hg (N := 5) ?hd (cs := #[.string (⟨#[]⟩ : ByteArray),.int .i64 0,.int .i64 0]) (t := 24) ?hr ?_;(case hd => rfl);(case hg => rfl);(case hr => first|(go_simp;done)|(go_simp;rfl));intro gb114 hg w15 hbox hb;have n0_ := Aside0.mk (Kd.R_below (by (with_reducible repeat (first|apply zkA | apply zkB | apply zkC));exact HO110.out) hb);have n1_ := Aside0.mk (IsS67.below (by repeat (first|(with_reducible first|exact HI0.out | apply zsA | apply zsB | apply zsC | apply zsD | apply zsE | apply zsF NB0_101.out) | exact HI0.out)) hb);have n2_ := Aside0.mk (blk_below (g := gb101) (o := .cells #[.string (⟨#[]⟩ : ByteArray),.int .i64 0,.int .i64 0] 24 (0,0)) (by (with_reducible repeat (first|apply zhA | apply zhB | apply zhC));exact BK101.out) hb);have n3_ := Aside0.mk (KeepBut.trans (by repeat (first|(with_reducible first|exact HK.out | apply zeA | apply zeB | apply zeC | apply zeD | refine keep_far ?_ GW101.out _) | exact HK.out)) (KeepBut.of_below hb g none) (.inl rfl));have n4_ := Aside0.mk (below_step (by repeat (first|(with_reducible first|exact HB.out | apply zbA | apply zbB | apply zbC | refine below_set ?_ (IsS67.ge HI0.out) | refine below_set ?_ GE101.out) | exact HB.out)) hb);have n5_ := Aside0.mk (hbox);have n6_ := Aside0.mk ((by rw [hg];exact (keep_size (w := w) (g := g) (row := none) (by repeat (first|(with_reducible first|exact HK.out | apply zeA | apply zeB | apply zeC | apply zeD | refine keep_far ?_ GW101.out _) | exact HK.out))) : w.heap.size ≤ gb114));have n7_ := Aside0.mk ((Nat.le_trans HW0.out (by rw [hg];exact (keep_size (w := w) (g := g) (row := none) (by repeat (first|(with_reducible first|exact HK.out | apply zeA | apply zeB | apply zeC | apply zeD | refine keep_far ?_ GW101.out _) | exact HK.out))) : w.heap.size ≤ gb114) : w0.heap.size ≤ gb114));have n8_ := Aside0.mk ((by rw [hg];exact Nat.ne_of_lt (blk_lt (g := gb101) (o := .cells #[.string (⟨#[]⟩ : ByteArray),.int .i64 0,.int .i64 0] 24 (0,0)) (by (with_reducible repeat (first|apply zhA | apply zhB | apply zhC));exact BK101.out)) : gb101 ≠ gb114));have n9_ := Aside0.mk ((by rw [hg];exact Nat.ne_of_gt (blk_lt (g := gb101) (o := .cells #[.string (⟨#[]⟩ : ByteArray),.int .i64 0,.int .i64 0] 24 (0,0)) (by (with_reducible repeat (first|apply zhA | apply zhB | apply zhC));exact BK101.out)) : gb114 ≠ gb101));have n10_ := Aside0.mk ((by rw [hg];exact Nat.ne_of_lt (IsS67.lt (show IsS67 w0 _ g s0_0 t112 t113 from by repeat (first|(with_reducible first|exact HI0.out | apply zsA | apply zsB | apply zsC | apply zsD | apply zsE | apply zsF NB0_101.out) | exact HI0.out))) : g ≠ gb114));have n11_ := Aside0.mk ((by rw [hg];exact Nat.ne_of_gt (IsS67.lt (show IsS67 w0 _ g s0_0 t112 t113 from by repeat (first|(with_reducible first|exact HI0.out | apply zsA | apply zsB | apply zsC | apply zsD | apply zsE | apply zsF NB0_101.out) | exact HI0.out))) : gb114 ≠ g));clear HO110;clear HI0;clear BK101;clear HK;clear HB;have HO110 := n0_;have HI0 := n1_;have BK101 := n2_;have HK := n3_;have HB := n4_;have BK114 := n5_;have GW114 := n6_;have GE114 := n7_;have NB101_114 := n8_;have NB114_101 := n9_;have NB0_114 := n10_;have NB114_0 := n11_;clear n0_ n1_ n2_ n3_ n4_ n5_ n6_ n7_ n8_ n9_ n10_ n11_;clear hb hbox hg;have hnb16 := NB114_101.out;have hnc16 := NB101_114.out;have hnb17 := NB114_0.out;have hnc17 := NB0_114.out;have hcz18_0 : w15.cell? ⟨gb114,0,none⟩ = some (.string (⟨#[]⟩ : ByteArray)) := (blk_cell BK114.out 0).trans rfl;have hcz18_1 : w15.cell? ⟨gb114,1,none⟩ = some (.int .i64 0) := (blk_cell BK114.out 1).trans rfl;have hcz18_2 : w15.cell? ⟨gb114,2,none⟩ = some (.int .i64 0) := (blk_cell BK114.out 2).trans rfl;have hfz18_0 := blk_frozen BK114.out 0;have hfz18_1 := blk_frozen BK114.out 1;have hfz18_2 := blk_frozen BK114.out 2)|((with_reducible refine gate_callee (f := 42) rfl ?_);refine goesM_ (some 16) Try.func42 #[.pointer (some ⟨g,0,none⟩),.int .i64 60] ?_;(with_reducible refine (spec_l1Cur_pick.calls g s0_0 t112 t113 60 t115 t116 t117 w0 _ ?side1 ?side2 A6.out).mono ?_);(case side1 => repeat (first|(with_reducible first|exact HI0.out | apply zsA | apply zsB | apply zsC | apply zsD | apply zsE | apply zsF NB0_101.out | apply zsF NB0_114.out) | exact HI0.out));(case side2 => repeat (first|(with_reducible first|exact HB.out | apply zbA | apply zbB | apply zbC | refine below_set ?_ (IsS67.ge HI0.out) | refine below_set ?_ GE101.out | refine below_set ?_ GE114.out) | exact HB.out));rintro e w19 ⟨rfl,hi,hb,hk⟩;refine ⟨_,rfl,?_⟩;have n0_ := Aside0.mk (KeepBut.blk hk (g' := gb101) (o := .cells #[.string (⟨#[]⟩ : ByteArray),.int .i64 0,.int .i64 0] 24 (0,0)) (by (with_reducible repeat (first|apply zhA | apply zhB | apply zhC));refine blk_far ?_ NB101_114.out _;(with_reducible repeat (first|apply zhA | apply zhB | apply zhC));refine blk_far ?_ NB101_114.out _;(with_reducible repeat (first|apply zhA | apply zhB | apply zhC));refine blk_far ?_ NB101_114.out _;(with_reducible repeat (first|apply zhA | apply zhB | apply zhC));exact BK101.out) NB101_0.out (by simp));have n1_ := Aside0.mk (Kd.R_mono (Kd.R_keep (IsS67.apart (show IsS67 w0 _ g s0_0 t112 t113 from by repeat (first|(with_reducible first|exact HI0.out | apply zsA | apply zsB | apply zsC | apply zsD | apply zsE | apply zsF NB0_101.out | apply zsF NB0_114.out) | exact HI0.out)) (by (with_reducible repeat (first|apply zkA | apply zkB | apply zkC));exact (Kd.R_mono (Kd.R_far (p := ⟨gb114,2,none⟩) (Kd.R_far (p := ⟨gb114,1,none⟩) (Kd.R_far (p := ⟨gb114,0,none⟩) (Kd.R_types HO110.out BK114.out (by decide)) (fun _ hk => hk.2) (.string a1)) (fun _ hk => hk.2) (.int .i64 t102)) (fun _ hk => hk.2) (.int .i64 t111)) (fun _ h_ => h_.1))) (by decide)) hk (fun _ h => h.2)) (fun _ h => h.1));have n2_ := Aside0.mk (KeepBut.blk hk (g' := gb114) (o := .cells #[.string a1,.int .i64 t102,.int .i64 t111] 24 (0,0)) (by (with_reducible repeat (first|apply zhA | apply zhB | apply zhC));refine blk_put (cs := #[.string a1,.int .i64 t102,.int .i64 0]) ?_ 2 _ rfl;(with_reducible repeat (first|apply zhA | apply zhB | apply zhC));refine blk_put (cs := #[.string a1,.int .i64 0,.int .i64 0]) ?_ 1 _ rfl;(with_reducible repeat (first|apply zhA | apply zhB | apply zhC));refine blk_put (cs := #[.string (⟨#[]⟩ : ByteArray),.int .i64 0,.int .i64 0]) ?_ 0 _ rfl;(with_reducible repeat (first|apply zhA | apply zhB | apply zhC));exact BK114.out) NB114_0.out (by simp));have n3_ := Aside0.mk (KeepBut.trans (by repeat (first|(with_reducible first|exact HK.out | apply zeA | apply zeB | apply zeC | apply zeD | refine keep_far ?_ GW101.out _ | refine keep_far ?_ GW114.out _) | exact HK.out)) hk (.inl rfl));have n4_ := Aside0.mk (hb);have n5_ := Aside0.mk (hi);clear BK101;clear HO110;clear BK114;clear HK;clear HB;clear HI0;have BK101 := n0_;have HO110 := n1_;have BK114 := n2_;have HK := n3_;have HB := n4_;have HI0 := n5_;clear n0_ n1_ n2_ n3_ n4_ n5_;(try clear hb)))
 (try simp only [Act.put,List.setIfInBounds_toArray,List.set_cons_zero,List.set_cons_succ])
 go_cut [] (fun wc => ∃ (kq : Nat) (x1001_6 : Int) (x1002_6 : Int) (x115001_6 : Int) (x115002_6 : Int),Aside0 (spec_l1Cur_card.j0 kq s0_0 x1001_6 x1002_6 a1 x115001_6 x115002_6 = some (r1,r2,r3,r4,r5)) ∧ Aside0 (kq ≤ k) ∧ Aside0 (wc.heap[gb101]? = some (.cells #[.string (⟨#[]⟩ : ByteArray),.int .i64 0,.int .i64 0] 24 (0,0))) ∧ Aside0 (wc.heap[gb114]? = some (.cells #[.string a1,.int .i64 x115001_6,.int .i64 x115002_6] 24 (0,0))) ∧ Aside0 (IsS67 w0 wc g s0_0 x1001_6 x1002_6) ∧ Aside0 (KeepBut w wc g none) ∧ Aside0 (Below w0.heap.size w0 wc))
 case first =>
  have H := HC7.out
  clear HC7
  by_cases c20 : t115 = 0
  ·rw [if_pos c20] at H
   have c20b0 : (t115 == 0) = true := beq_iff_eq.mpr c20
   have c20b1 : (t115 != 0) = false := bne_eq_false_iff_eq.mpr c20
   clear c20
   (first|rw [c20b0] | (simp only [i64_w,i32_w];rw [c20b0]) | skip)
   obtain ⟨y118,hy118⟩ : ∃ y_ : List Int,y_ = (([(-1),6] : List Int)) := ⟨_,rfl⟩
   replace H : ((spec_l1Cur_among.f s0_0 t116 t117 y118).bind fun bt121 => (spec_l1Cur_card.j0 k s0_0 bt121.2.1 bt121.2.2 a1 bt121.1 t111)) = some (r1,r2,r3,r4,r5) := by first|(rw [hy118];with_reducible exact H)|(have H2_ := (Option.bind_some _ _).symm.trans H;rw [hy118];with_reducible exact H2_)|(have H2_ := (Option.bind_some _ _).symm.trans H;with_reducible exact H2_) | with_reducible exact H | (rw [hy118];exact H) | exact H
   have Ny118 := Aside0.mk hy118
   clear hy118
   replace H := Option.bind_eq_some_iff.mp H
   obtain ⟨⟨t121,t122,t123⟩,A210,H⟩ := H
   try dsimp only at H
   have A21 := Aside0.mk A210
   clear A210
   have H' := Aside0.mk H
   clear H
   go_wp2_with (first|((with_reducible refine gate_dst (N := 20) rfl ?_);refine Kd.R_lit (Kd.int .i64) _ 3 ?hg (N := 20) ?hd (xs := ([(-1),6] : List Int)) (inner := [.int .i64 (-1),.int .i64 6]) (ok := fun _ => True) (okp := fun _ => True) ?hr ?hp (fun _ hk => hk) trivial (Below.refl _ _) (Nat.le_refl _) (by simp) ?_;(case hd => rfl);(case hg => rfl);(case hr => first|(go_simp;done)|(go_simp;rfl));(case hp => exact (Reps.one (show Kd.M (Kd.int .i64) _ _ _ (-1) [.int .i64 (-1)] from rfl) (Reps.one (show Kd.M (Kd.int .i64) _ _ _ 6 [.int .i64 6] from rfl) (Reps.none _ _))));intro v119 w22 ho23 hb hg_ hnew_;clear hg_ hnew_;(first|rw [← Ny118.out] at ho23 | (simp only [Int.reduceToNat] at ho23;rw [← Ny118.out] at ho23));have n0_ := Aside0.mk (Kd.R_elder' (by (with_reducible repeat (first|apply zkA | apply zkB | apply zkC));exact HO110.out) (Kd.R_base ho23) hb);have n1_ := Aside0.mk (Kd.R_lower (Kd.R_new' ho23 (Kd.R_lt (by (with_reducible repeat (first|apply zkA | apply zkB | apply zkC));exact HO110.out))) (keep_size (w := w) (g := g) (row := none) (by repeat (first|(with_reducible first|exact HK.out | apply zeA | apply zeB | apply zeC | apply zeD | refine keep_far ?_ GW101.out _ | refine keep_far ?_ GW114.out _) | exact HK.out))));have n2_ := Aside0.mk (IsS67.below (by repeat (first|(with_reducible first|exact HI0.out | apply zsA | apply zsB | apply zsC | apply zsD | apply zsE | apply zsF NB0_101.out | apply zsF NB0_114.out) | exact HI0.out)) hb);have n3_ := Aside0.mk (blk_below (g := gb101) (o := .cells #[.string (⟨#[]⟩ : ByteArray),.int .i64 0,.int .i64 0] 24 (0,0)) (by (with_reducible repeat (first|apply zhA | apply zhB | apply zhC));exact BK101.out) hb);have n4_ := Aside0.mk (blk_below (g := gb114) (o := .cells #[.string a1,.int .i64 t102,.int .i64 t111] 24 (0,0)) (by (with_reducible repeat (first|apply zhA | apply zhB | apply zhC));exact BK114.out) hb);have n5_ := Aside0.mk (KeepBut.trans (by repeat (first|(with_reducible first|exact HK.out | apply zeA | apply zeB | apply zeC | apply zeD | refine keep_far ?_ GW101.out _ | refine keep_far ?_ GW114.out _) | exact HK.out)) (KeepBut.of_below hb g none) (.inl rfl));have n6_ := Aside0.mk (below_step (by repeat (first|(with_reducible first|exact HB.out | apply zbA | apply zbB | apply zbC | refine below_set ?_ (IsS67.ge HI0.out) | refine below_set ?_ GE101.out | refine below_set ?_ GE114.out) | exact HB.out)) hb);clear HO110;clear HI0;clear BK101;clear BK114;clear HK;clear HB;have HO110 := n0_;have HO120 := n1_;have HI0 := n2_;have BK101 := n3_;have BK114 := n4_;have HK := n5_;have HB := n6_;clear n0_ n1_ n2_ n3_ n4_ n5_ n6_;clear hb ho23;obtain ⟨Ao24,co24,eo24⟩ := Kd.R_slice HO120.out;subst eo24)|((with_reducible refine gate_callee (f := 32) rfl ?_);refine goesM_ (some 21) Try.func32 #[.pointer (some ⟨g,0,none⟩),.slice Ao24 y118.length co24] ?_;(with_reducible refine (spec_l1Cur_among.calls g s0_0 t116 t117 _ _ y118 t121 t122 t123 w0 _ ?side1 ?side2 ?side3 ?side4 ?side5 A21.out).mono ?_);(case side1 => repeat (first|(with_reducible first|exact HI0.out | apply zsA | apply zsB | apply zsC | apply zsD | apply zsE | apply zsF NB0_101.out | apply zsF NB0_114.out) | exact HI0.out));(case side2 => repeat (first|(with_reducible first|exact HB.out | apply zbA | apply zbB | apply zbC | refine below_set ?_ (IsS67.ge HI0.out) | refine below_set ?_ GE101.out | refine below_set ?_ GE114.out) | exact HB.out));(case side3 => repeat (first|exact (Kd.R_reads' HO120.out).2.2 | (with_reducible refine Kd.C_alloc ?_ _)|(with_reducible refine Kd.C_drewN ?_ _)|(with_reducible refine Kd.C_drew ?_)));(case side4 => exact (Kd.R_reads' HO120.out).2.1);(case side5 => exact far_slice (IsS67.own_ne HI0.out HO120.out (by decide)));rintro e w25 ⟨rfl,hi,hb,hk⟩;refine ⟨_,rfl,?_⟩;have n0_ := Aside0.mk (KeepBut.blk hk (g' := gb101) (o := .cells #[.string (⟨#[]⟩ : ByteArray),.int .i64 0,.int .i64 0] 24 (0,0)) (by (with_reducible repeat (first|apply zhA | apply zhB | apply zhC));exact BK101.out) NB101_0.out (by simp));have n1_ := Aside0.mk (Kd.R_mono (Kd.R_keep (IsS67.apart (show IsS67 w0 _ g s0_0 t116 t117 from by repeat (first|(with_reducible first|exact HI0.out | apply zsA | apply zsB | apply zsC | apply zsD | apply zsE | apply zsF NB0_101.out | apply zsF NB0_114.out) | exact HI0.out)) (by (with_reducible repeat (first|apply zkA | apply zkB | apply zkC));exact HO110.out) (by decide)) hk (fun _ h => h.2)) (fun _ h => h.1));have n2_ := Aside0.mk (KeepBut.blk hk (g' := gb114) (o := .cells #[.string a1,.int .i64 t102,.int .i64 t111] 24 (0,0)) (by (with_reducible repeat (first|apply zhA | apply zhB | apply zhC));exact BK114.out) NB114_0.out (by simp));have n3_ := Aside0.mk (Kd.R_mono (Kd.R_keep (IsS67.apart (show IsS67 w0 _ g s0_0 t116 t117 from by repeat (first|(with_reducible first|exact HI0.out | apply zsA | apply zsB | apply zsC | apply zsD | apply zsE | apply zsF NB0_101.out | apply zsF NB0_114.out) | exact HI0.out)) (by (with_reducible repeat (first|apply zkA | apply zkB | apply zkC));exact HO120.out) (by decide)) hk (fun _ h => h.2)) (fun _ h => h.1));have n4_ := Aside0.mk (KeepBut.trans (by repeat (first|(with_reducible first|exact HK.out | apply zeA | apply zeB | apply zeC | apply zeD | refine keep_far ?_ GW101.out _ | refine keep_far ?_ GW114.out _) | exact HK.out)) hk (.inl rfl));have n5_ := Aside0.mk (hb);have n6_ := Aside0.mk (hi);clear BK101;clear HO110;clear BK114;clear HO120;clear HK;clear HB;clear HI0;have BK101 := n0_;have HO110 := n1_;have BK114 := n2_;have HO120 := n3_;have HK := n4_;have HB := n5_;have HI0 := n6_;clear n0_ n1_ n2_ n3_ n4_ n5_ n6_;(try clear hb);have hnb26 := NB114_101.out;have hnc26 := NB101_114.out;have hnb27 := NB114_0.out;have hnc27 := NB0_114.out;have hcz28_0 : w25.cell? ⟨gb114,0,none⟩ = some (.string a1) := (blk_cell BK114.out 0).trans rfl;have hcz28_1 : w25.cell? ⟨gb114,1,none⟩ = some (.int .i64 t102) := (blk_cell BK114.out 1).trans rfl;have hcz28_2 : w25.cell? ⟨gb114,2,none⟩ = some (.int .i64 t111) := (blk_cell BK114.out 2).trans rfl;have hfz28_0 := blk_frozen BK114.out 0;have hfz28_1 := blk_frozen BK114.out 1;have hfz28_2 := blk_frozen BK114.out 2))
   go_meet
   case rel => exact ⟨_,(t122),(t123),(t121),(t111),H',⟨by first|omega | exact Nat.le_refl _⟩,⟨by (with_reducible repeat (first|apply zhA | apply zhB | apply zhC));refine blk_far ?_ NB101_114.out _;(with_reducible repeat (first|apply zhA | apply zhB | apply zhC));exact BK101.out⟩,⟨by (with_reducible repeat (first|apply zhA | apply zhB | apply zhC));refine blk_put (cs := #[.string a1,.int .i64 t102,.int .i64 t111]) ?_ 1 _ rfl;(with_reducible repeat (first|apply zhA | apply zhB | apply zhC));exact BK114.out⟩,⟨by repeat (first|(with_reducible first|exact HI0.out | apply zsA | apply zsB | apply zsC | apply zsD | apply zsE | apply zsF NB0_101.out | apply zsF NB0_114.out) | exact HI0.out)⟩,⟨by repeat (first|(with_reducible first|exact HK.out | apply zeA | apply zeB | apply zeC | apply zeD | refine keep_far ?_ GW101.out _ | refine keep_far ?_ GW114.out _) | exact HK.out)⟩,⟨by repeat (first|(with_reducible first|exact HB.out | apply zbA | apply zbB | apply zbC | refine below_set ?_ (IsS67.ge HI0.out) | refine below_set ?_ GE101.out | refine below_set ?_ GE114.out) | exact HB.out)⟩⟩
  ·rw [if_neg c20] at H
   have c20b0 : (t115 == 0) = false := beq_eq_false_iff_ne.mpr c20
   have c20b1 : (t115 != 0) = true := bne_iff_ne.mpr c20
   (first|rw [c20b0] | (simp only [i64_w,i32_w];rw [c20b0]) | skip)
   by_cases c29 : t115 = 1
   ·rw [if_pos c29] at H
    have c29b0 : (t115 == 1) = true := beq_iff_eq.mpr c29
    have c29b1 : (t115 != 1) = false := bne_eq_false_iff_eq.mpr c29
    clear c29
    obtain ⟨y124,hy124⟩ : ∃ y_ : List Int,y_ = (([(-1),100000,(-9223372036854775808)] : List Int)) := ⟨_,rfl⟩
    replace H : ((spec_l1Cur_among.f s0_0 t116 t117 y124).bind fun bt127 => (spec_l1Cur_card.j0 k s0_0 bt127.2.1 bt127.2.2 a1 t102 bt127.1)) = some (r1,r2,r3,r4,r5) := by first|(rw [hy124];with_reducible exact H)|(have H2_ := (Option.bind_some _ _).symm.trans H;rw [hy124];with_reducible exact H2_)|(have H2_ := (Option.bind_some _ _).symm.trans H;with_reducible exact H2_) | with_reducible exact H | (rw [hy124];exact H) | exact H
    have Ny124 := Aside0.mk hy124
    clear hy124
    replace H := Option.bind_eq_some_iff.mp H
    obtain ⟨⟨t127,t128,t129⟩,A300,H⟩ := H
    try dsimp only at H
    have A30 := Aside0.mk A300
    clear A300
    have H' := Aside0.mk H
    clear H
    go_wp2_with (first|((with_reducible refine gate_dst (N := 26) rfl ?_);refine Kd.R_lit (Kd.int .i64) _ 3 ?hg (N := 26) ?hd (xs := ([(-1),100000,(-9223372036854775808)] : List Int)) (inner := [.int .i64 (-1),.int .i64 100000,.int .i64 (-9223372036854775808)]) (ok := fun _ => True) (okp := fun _ => True) ?hr ?hp (fun _ hk => hk) trivial (Below.refl _ _) (Nat.le_refl _) (by simp) ?_;(case hd => rfl);(case hg => rfl);(case hr => first|(go_simp;done)|(go_simp;rfl));(case hp => exact (Reps.one (show Kd.M (Kd.int .i64) _ _ _ (-1) [.int .i64 (-1)] from rfl) (Reps.one (show Kd.M (Kd.int .i64) _ _ _ 100000 [.int .i64 100000] from rfl) (Reps.one (show Kd.M (Kd.int .i64) _ _ _ (-9223372036854775808) [.int .i64 (-9223372036854775808)] from rfl) (Reps.none _ _)))));intro v125 w31 ho32 hb hg_ hnew_;clear hg_ hnew_;(first|rw [← Ny124.out] at ho32 | (simp only [Int.reduceToNat] at ho32;rw [← Ny124.out] at ho32));have n0_ := Aside0.mk (Kd.R_elder' (by (with_reducible repeat (first|apply zkA | apply zkB | apply zkC));exact HO110.out) (Kd.R_base ho32) hb);have n1_ := Aside0.mk (Kd.R_lower (Kd.R_new' ho32 (Kd.R_lt (by (with_reducible repeat (first|apply zkA | apply zkB | apply zkC));exact HO110.out))) (keep_size (w := w) (g := g) (row := none) (by repeat (first|(with_reducible first|exact HK.out | apply zeA | apply zeB | apply zeC | apply zeD | refine keep_far ?_ GW101.out _ | refine keep_far ?_ GW114.out _) | exact HK.out))));have n2_ := Aside0.mk (IsS67.below (by repeat (first|(with_reducible first|exact HI0.out | apply zsA | apply zsB | apply zsC | apply zsD | apply zsE | apply zsF NB0_101.out | apply zsF NB0_114.out) | exact HI0.out)) hb);have n3_ := Aside0.mk (blk_below (g := gb101) (o := .cells #[.string (⟨#[]⟩ : ByteArray),.int .i64 0,.int .i64 0] 24 (0,0)) (by (with_reducible repeat (first|apply zhA | apply zhB | apply zhC));exact BK101.out) hb);have n4_ := Aside0.mk (blk_below (g := gb114) (o := .cells #[.string a1,.int .i64 t102,.int .i64 t111] 24 (0,0)) (by (with_reducible repeat (first|apply zhA | apply zhB | apply zhC));exact BK114.out) hb);have n5_ := Aside0.mk (KeepBut.trans (by repeat (first|(with_reducible first|exact HK.out | apply zeA | apply zeB | apply zeC | apply zeD | refine keep_far ?_ GW101.out _ | refine keep_far ?_ GW114.out _) | exact HK.out)) (KeepBut.of_below hb g none) (.inl rfl));have n6_ := Aside0.mk (below_step (by repeat (first|(with_reducible first|exact HB.out | apply zbA | apply zbB | apply zbC | refine below_set ?_ (IsS67.ge HI0.out) | refine below_set ?_ GE101.out | refine below_set ?_ GE114.out) | exact HB.out)) hb);clear HO110;clear HI0;clear BK101;clear BK114;clear HK;clear HB;have HO110 := n0_;have HO126 := n1_;have HI0 := n2_;have BK101 := n3_;have BK114 := n4_;have HK := n5_;have HB := n6_;clear n0_ n1_ n2_ n3_ n4_ n5_ n6_;clear hb ho32;obtain ⟨Ao33,co33,eo33⟩ := Kd.R_slice HO126.out;subst eo33)|((with_reducible refine gate_callee (f := 32) rfl ?_);refine goesM_ (some 27) Try.func32 #[.pointer (some ⟨g,0,none⟩),.slice Ao33 y124.length co33] ?_;(with_reducible refine (spec_l1Cur_among.calls g s0_0 t116 t117 _ _ y124 t127 t128 t129 w0 _ ?side1 ?side2 ?side3 ?side4 ?side5 A30.out).mono ?_);(case side1 => repeat (first|(with_reducible first|exact HI0.out | apply zsA | apply zsB | apply zsC | apply zsD | apply zsE | apply zsF NB0_101.out | apply zsF NB0_114.out) | exact HI0.out));(case side2 => repeat (first|(with_reducible first|exact HB.out | apply zbA | apply zbB | apply zbC | refine below_set ?_ (IsS67.ge HI0.out) | refine below_set ?_ GE101.out | refine below_set ?_ GE114.out) | exact HB.out));(case side3 => repeat (first|exact (Kd.R_reads' HO126.out).2.2 | (with_reducible refine Kd.C_alloc ?_ _)|(with_reducible refine Kd.C_drewN ?_ _)|(with_reducible refine Kd.C_drew ?_)));(case side4 => exact (Kd.R_reads' HO126.out).2.1);(case side5 => exact far_slice (IsS67.own_ne HI0.out HO126.out (by decide)));rintro e w34 ⟨rfl,hi,hb,hk⟩;refine ⟨_,rfl,?_⟩;have n0_ := Aside0.mk (KeepBut.blk hk (g' := gb101) (o := .cells #[.string (⟨#[]⟩ : ByteArray),.int .i64 0,.int .i64 0] 24 (0,0)) (by (with_reducible repeat (first|apply zhA | apply zhB | apply zhC));exact BK101.out) NB101_0.out (by simp));have n1_ := Aside0.mk (Kd.R_mono (Kd.R_keep (IsS67.apart (show IsS67 w0 _ g s0_0 t116 t117 from by repeat (first|(with_reducible first|exact HI0.out | apply zsA | apply zsB | apply zsC | apply zsD | apply zsE | apply zsF NB0_101.out | apply zsF NB0_114.out) | exact HI0.out)) (by (with_reducible repeat (first|apply zkA | apply zkB | apply zkC));exact HO110.out) (by decide)) hk (fun _ h => h.2)) (fun _ h => h.1));have n2_ := Aside0.mk (KeepBut.blk hk (g' := gb114) (o := .cells #[.string a1,.int .i64 t102,.int .i64 t111] 24 (0,0)) (by (with_reducible repeat (first|apply zhA | apply zhB | apply zhC));exact BK114.out) NB114_0.out (by simp));have n3_ := Aside0.mk (Kd.R_mono (Kd.R_keep (IsS67.apart (show IsS67 w0 _ g s0_0 t116 t117 from by repeat (first|(with_reducible first|exact HI0.out | apply zsA | apply zsB | apply zsC | apply zsD | apply zsE | apply zsF NB0_101.out | apply zsF NB0_114.out) | exact HI0.out)) (by (with_reducible repeat (first|apply zkA | apply zkB | apply zkC));exact HO126.out) (by decide)) hk (fun _ h => h.2)) (fun _ h => h.1));have n4_ := Aside0.mk (KeepBut.trans (by repeat (first|(with_reducible first|exact HK.out | apply zeA | apply zeB | apply zeC | apply zeD | refine keep_far ?_ GW101.out _ | refine keep_far ?_ GW114.out _) | exact HK.out)) hk (.inl rfl));have n5_ := Aside0.mk (hb);have n6_ := Aside0.mk (hi);clear BK101;clear HO110;clear BK114;clear HO126;clear HK;clear HB;clear HI0;have BK101 := n0_;have HO110 := n1_;have BK114 := n2_;have HO126 := n3_;have HK := n4_;have HB := n5_;have HI0 := n6_;clear n0_ n1_ n2_ n3_ n4_ n5_ n6_;(try clear hb);have hnb35 := NB114_101.out;have hnc35 := NB101_114.out;have hnb36 := NB114_0.out;have hnc36 := NB0_114.out;have hcz37_0 : w34.cell? ⟨gb114,0,none⟩ = some (.string a1) := (blk_cell BK114.out 0).trans rfl;have hcz37_1 : w34.cell? ⟨gb114,1,none⟩ = some (.int .i64 t102) := (blk_cell BK114.out 1).trans rfl;have hcz37_2 : w34.cell? ⟨gb114,2,none⟩ = some (.int .i64 t111) := (blk_cell BK114.out 2).trans rfl;have hfz37_0 := blk_frozen BK114.out 0;have hfz37_1 := blk_frozen BK114.out 1;have hfz37_2 := blk_frozen BK114.out 2))
    go_meet
    case rel => exact ⟨_,(t128),(t129),(t102),(t127),H',⟨by first|omega | exact Nat.le_refl _⟩,⟨by (with_reducible repeat (first|apply zhA | apply zhB | apply zhC));refine blk_far ?_ NB101_114.out _;(with_reducible repeat (first|apply zhA | apply zhB | apply zhC));exact BK101.out⟩,⟨by (with_reducible repeat (first|apply zhA | apply zhB | apply zhC));refine blk_put (cs := #[.string a1,.int .i64 t102,.int .i64 t111]) ?_ 2 _ rfl;(with_reducible repeat (first|apply zhA | apply zhB | apply zhC));exact BK114.out⟩,⟨by repeat (first|(with_reducible first|exact HI0.out | apply zsA | apply zsB | apply zsC | apply zsD | apply zsE | apply zsF NB0_101.out | apply zsF NB0_114.out) | exact HI0.out)⟩,⟨by repeat (first|(with_reducible first|exact HK.out | apply zeA | apply zeB | apply zeC | apply zeD | refine keep_far ?_ GW101.out _ | refine keep_far ?_ GW114.out _) | exact HK.out)⟩,⟨by repeat (first|(with_reducible first|exact HB.out | apply zbA | apply zbB | apply zbC | refine below_set ?_ (IsS67.ge HI0.out) | refine below_set ?_ GE101.out | refine below_set ?_ GE114.out) | exact HB.out)⟩⟩
   ·rw [if_neg c29] at H
    have c29b0 : (t115 == 1) = false := beq_eq_false_iff_ne.mpr c29
    have c29b1 : (t115 != 1) = true := bne_iff_ne.mpr c29
    have H' := Aside0.mk H
    clear H
    go_wp2
    go_meet
    case rel => exact ⟨_,(t116),(t117),(t102),(t111),H',⟨by first|omega | exact Nat.le_refl _⟩,⟨by (with_reducible repeat (first|apply zhA | apply zhB | apply zhC));exact BK101.out⟩,⟨by (with_reducible repeat (first|apply zhA | apply zhB | apply zhC));exact BK114.out⟩,⟨by repeat (first|(with_reducible first|exact HI0.out | apply zsA | apply zsB | apply zsC | apply zsD | apply zsE | apply zsF NB0_101.out | apply zsF NB0_114.out) | exact HI0.out)⟩,⟨by repeat (first|(with_reducible first|exact HK.out | apply zeA | apply zeB | apply zeC | apply zeD | refine keep_far ?_ GW101.out _ | refine keep_far ?_ GW114.out _) | exact HK.out)⟩,⟨by repeat (first|(with_reducible first|exact HB.out | apply zbA | apply zbB | apply zbC | refine below_set ?_ (IsS67.ge HI0.out) | refine below_set ?_ GE101.out | refine below_set ?_ GE114.out) | exact HB.out)⟩⟩
 case rest =>
  clear HC7
  (try clear c1);(try clear c2);(try clear p2);(try clear c3);(try clear c4);(try clear c16);(try clear c17);(try clear c20);(try clear c20b0);(try clear c20b1);(try clear c26);(try clear c27);(try clear c29);(try clear c29b0);(try clear c29b1);(try clear c31);(try clear c32);(try clear c35);(try clear c36);(try clear hcz18_0);(try clear hcz18_1);(try clear hcz18_2);(try clear hcz28_0);(try clear hcz28_1);(try clear hcz28_2);(try clear hcz37_0);(try clear hcz37_1);(try clear hcz37_2);(try clear hfz18_0);(try clear hfz18_1);(try clear hfz18_2);(try clear hfz28_0);(try clear hfz28_1);(try clear hfz28_2);(try clear hfz37_0);(try clear hfz37_1);(try clear hfz37_2)
  obtain ⟨kq,x1001_6,x1002_6,x115001_6,x115002_6,HA,HJ6,BK101,BK114,HI0,HK,HB⟩ := hcut
  cases kq with
  | zero => exact absurd HA.out (by simp [spec_l1Cur_card.j0])
  | succ kj6 =>
   have H := HA.out
   clear HA
   simp only [spec_l1Cur_card.j0] at H
   simp only [Option.some.injEq,Prod.mk.injEq] at H
   obtain ⟨rfl,rfl,rfl,rfl,rfl⟩ := H
   have hnb38 := NB114_101.out
   have hnc38 := NB101_114.out
   have hnb39 := NB114_0.out
   have hnc39 := NB0_114.out
   have hcz40_0 : wc.cell? ⟨gb114,0,none⟩ = some (.string a1) := (blk_cell BK114.out 0).trans rfl
   have hcz40_1 : wc.cell? ⟨gb114,1,none⟩ = some (.int .i64 x115001_6) := (blk_cell BK114.out 1).trans rfl
   have hcz40_2 : wc.cell? ⟨gb114,2,none⟩ = some (.int .i64 x115002_6) := (blk_cell BK114.out 2).trans rfl
   have hfz40_0 := blk_frozen BK114.out 0
   have hfz40_1 := blk_frozen BK114.out 1
   have hfz40_2 := blk_frozen BK114.out 2
   have hnb41 := NB101_0.out
   have hnc41 := NB0_101.out
   have hcz42_0 : wc.cell? ⟨gb101,0,none⟩ = some (.string (⟨#[]⟩ : ByteArray)) := (blk_cell BK101.out 0).trans rfl
   have hcz42_1 : wc.cell? ⟨gb101,1,none⟩ = some (.int .i64 0) := (blk_cell BK101.out 1).trans rfl
   have hcz42_2 : wc.cell? ⟨gb101,2,none⟩ = some (.int .i64 0) := (blk_cell BK101.out 2).trans rfl
   have hfz42_0 := blk_frozen BK101.out 0
   have hfz42_1 := blk_frozen BK101.out 1
   have hfz42_2 := blk_frozen BK101.out 2
   go_wp2
   refine bodyPost_ret (results_cell_row rfl _ _ gb101 24 #[.string a1,.int .i64 x115001_6,.int .i64 x115002_6] (0,0) _ rfl (by (with_reducible repeat (first|apply zhA | apply zhB | apply zhC));refine blk_put (cs := #[.string a1,.int .i64 x115001_6,.int .i64 0]) ?_ 2 _ rfl;(with_reducible repeat (first|apply zhA | apply zhB | apply zhC));refine blk_put (cs := #[.string a1,.int .i64 0,.int .i64 0]) ?_ 1 _ rfl;(with_reducible repeat (first|apply zhA | apply zhB | apply zhC));refine blk_put (cs := #[.string (⟨#[]⟩ : ByteArray),.int .i64 0,.int .i64 0]) ?_ 0 _ rfl;(with_reducible repeat (first|apply zhA | apply zhB | apply zhC));exact BK101.out) Try.underlying24 rfl (by kernel_rfl)) rfl ?_
   exact ⟨by first|rfl | (simp [*,errW_none,errW_some] <;> rfl),by repeat (first|(with_reducible first|exact HI0.out | apply zsA | apply zsB | apply zsC | apply zsD | apply zsE | apply zsF NB0_101.out | apply zsF NB0_114.out) | exact HI0.out),by repeat (first|(with_reducible first|exact HB.out | apply zbA | apply zbB | apply zbC | refine below_set ?_ (IsS67.ge HI0.out) | refine below_set ?_ GE101.out | refine below_set ?_ GE114.out) | exact HB.out),by repeat (first|(with_reducible first|exact HK.out | apply zeA | apply zeB | apply zeC | apply zeD | refine keep_far ?_ GW101.out _ | refine keep_far ?_ GW114.out _) | exact HK.out)⟩

/-! ### spec_l1Cur_cardDay: function 33 -/
def spec_l1Cur_cardDay.f (s0_0 : List Int) (s0_1 : Int) (s0_2 : Int) : Option (Int × Int × Int) := (spec_l1Cur_pick.f s0_0 s0_1 s0_2 40).bind fun bt101 => ((spec_l1Cur_among.f s0_0 bt101.2.1 bt101.2.2 (([30,(-1),100000] : List Int))).bind fun bt107 => ((spec_l1Cur_among.f s0_0 bt107.2.1 bt107.2.2 (([0,5,10,14,20,bt101.1,99998,99999,bt107.1] : List Int))).bind fun bt113 => (some (bt113.1,bt113.2.1,bt113.2.2))))
set_option maxHeartbeats 3000000 in
set_option maxRecDepth 100000 in
theorem spec_l1Cur_cardDay.calls (g : Nat) (s0_0 : List Int) (s0_1 : Int) (s0_2 : Int) (r1 : Int) (r2 : Int) (r3 : Int) (w0 w : World) (hI : IsS67 w0 w g s0_0 s0_1 s0_2) (hB : Below w0.heap.size w0 w) (h : spec_l1Cur_cardDay.f s0_0 s0_1 s0_2 = some (r1,r2,r3)) :
  Calls Try.prog 33 #[.pointer (some ⟨g,0,none⟩)] w fun e w' => e = .returned (.int .i64 r1) ∧ IsS67 w0 w' g s0_0 r2 r3 ∧ Below w0.heap.size w0 w' ∧ KeepBut w w' g none := by
 have HI0 := Aside0.mk hI
 have HK := Aside0.mk (KeepBut.refl w g none)
 have HL := Aside0.mk hB.size
 clear hI
 have HW0 := Aside0.mk hB.size
 have HB := Aside0.mk hB
 clear hB
 have H : ((spec_l1Cur_pick.f s0_0 s0_1 s0_2 40).bind fun bt101 => ((spec_l1Cur_among.f s0_0 bt101.2.1 bt101.2.2 (([30,(-1),100000] : List Int))).bind fun bt107 => ((spec_l1Cur_among.f s0_0 bt107.2.1 bt107.2.2 (([0,5,10,14,20,bt101.1,99998,99999,bt107.1] : List Int))).bind fun bt113 => (some (bt113.1,bt113.2.1,bt113.2.2))))) = some (r1,r2,r3) := h
 clear h
 replace H := Option.bind_eq_some_iff.mp H
 obtain ⟨⟨t101,t102,t103⟩,A20,H⟩ := H
 try dsimp only at H
 have A2 := Aside0.mk A20
 clear A20
 obtain ⟨y104,hy104⟩ : ∃ y_ : List Int,y_ = (([30,(-1),100000] : List Int)) := ⟨_,rfl⟩
 replace H : ((spec_l1Cur_among.f s0_0 t102 t103 y104).bind fun bt107 => ((spec_l1Cur_among.f s0_0 bt107.2.1 bt107.2.2 (([0,5,10,14,20,t101,99998,99999,bt107.1] : List Int))).bind fun bt113 => (some (bt113.1,bt113.2.1,bt113.2.2)))) = some (r1,r2,r3) := by first|(rw [hy104];with_reducible exact H)|(have H2_ := (Option.bind_some _ _).symm.trans H;rw [hy104];with_reducible exact H2_)|(have H2_ := (Option.bind_some _ _).symm.trans H;with_reducible exact H2_) | with_reducible exact H | (rw [hy104];exact H) | exact H
 have Ny104 := Aside0.mk hy104
 clear hy104
 replace H := Option.bind_eq_some_iff.mp H
 obtain ⟨⟨t107,t108,t109⟩,A30,H⟩ := H
 try dsimp only at H
 have A3 := Aside0.mk A30
 clear A30
 obtain ⟨y110,hy110⟩ : ∃ y_ : List Int,y_ = (([0,5,10,14,20,t101,99998,99999,t107] : List Int)) := ⟨_,rfl⟩
 replace H : ((spec_l1Cur_among.f s0_0 t108 t109 y110).bind fun bt113 => (some (bt113.1,bt113.2.1,bt113.2.2))) = some (r1,r2,r3) := by first|(rw [hy110];with_reducible exact H)|(have H2_ := (Option.bind_some _ _).symm.trans H;rw [hy110];with_reducible exact H2_)|(have H2_ := (Option.bind_some _ _).symm.trans H;with_reducible exact H2_) | with_reducible exact H | (rw [hy110];exact H) | exact H
 have Ny110 := Aside0.mk hy110
 clear hy110
 replace H := Option.bind_eq_some_iff.mp H
 obtain ⟨⟨t113,t114,t115⟩,A40,H⟩ := H
 try dsimp only at H
 have A4 := Aside0.mk A40
 clear A40
 simp only [Option.some.injEq,Prod.mk.injEq] at H
 obtain ⟨rfl,rfl,rfl⟩ := H
 go_enter Try.func33,Try.ntmps33
 go_wp2_with (first|((with_reducible refine gate_callee (f := 42) rfl ?_);refine goesM_ (some 5) Try.func42 #[.pointer (some ⟨g,0,none⟩),.int .i64 40] ?_;(with_reducible refine (spec_l1Cur_pick.calls g s0_0 s0_1 s0_2 40 t101 t102 t103 w0 _ ?side1 ?side2 A2.out).mono ?_);(case side1 => repeat (first|(with_reducible first|exact HI0.out | apply zsA | apply zsB | apply zsC | apply zsD | apply zsE) | exact HI0.out));(case side2 => repeat (first|(with_reducible first|exact HB.out | apply zbA | apply zbB | apply zbC | refine below_set ?_ (IsS67.ge HI0.out)) | exact HB.out));rintro e w5 ⟨rfl,hi,hb,hk⟩;refine ⟨_,rfl,?_⟩;have n0_ := Aside0.mk (KeepBut.trans (by repeat (first|(with_reducible first|exact HK.out | apply zeA | apply zeB | apply zeC | apply zeD) | exact HK.out)) hk (.inl rfl));have n1_ := Aside0.mk (hb);have n2_ := Aside0.mk (hi);clear HK;clear HB;clear HI0;have HK := n0_;have HB := n1_;have HI0 := n2_;clear n0_ n1_ n2_;(try clear hb))|((with_reducible refine gate_dst (N := 7) rfl ?_);refine Kd.R_lit (Kd.int .i64) _ 3 ?hg (N := 7) ?hd (xs := ([30,(-1),100000] : List Int)) (inner := [.int .i64 30,.int .i64 (-1),.int .i64 100000]) (ok := fun _ => True) (okp := fun _ => True) ?hr ?hp (fun _ hk => hk) trivial (Below.refl _ _) (Nat.le_refl _) (by simp) ?_;(case hd => rfl);(case hg => rfl);(case hr => first|(go_simp;done)|(go_simp;rfl));(case hp => exact (Reps.one (show Kd.M (Kd.int .i64) _ _ _ 30 [.int .i64 30] from rfl) (Reps.one (show Kd.M (Kd.int .i64) _ _ _ (-1) [.int .i64 (-1)] from rfl) (Reps.one (show Kd.M (Kd.int .i64) _ _ _ 100000 [.int .i64 100000] from rfl) (Reps.none _ _)))));intro v105 w6 ho7 hb hg_ hnew_;clear hg_ hnew_;(first|rw [← Ny104.out] at ho7 | (simp only [Int.reduceToNat] at ho7;rw [← Ny104.out] at ho7));have n0_ := Aside0.mk (Kd.R_lower ho7 (keep_size (w := w) (g := g) (row := none) (by repeat (first|(with_reducible first|exact HK.out | apply zeA | apply zeB | apply zeC | apply zeD) | exact HK.out))));have n1_ := Aside0.mk (IsS67.below (by repeat (first|(with_reducible first|exact HI0.out | apply zsA | apply zsB | apply zsC | apply zsD | apply zsE) | exact HI0.out)) hb);have n2_ := Aside0.mk (KeepBut.trans (by repeat (first|(with_reducible first|exact HK.out | apply zeA | apply zeB | apply zeC | apply zeD) | exact HK.out)) (KeepBut.of_below hb g none) (.inl rfl));have n3_ := Aside0.mk (below_step (by repeat (first|(with_reducible first|exact HB.out | apply zbA | apply zbB | apply zbC | refine below_set ?_ (IsS67.ge HI0.out)) | exact HB.out)) hb);clear HI0;clear HK;clear HB;have HO106 := n0_;have HI0 := n1_;have HK := n2_;have HB := n3_;clear n0_ n1_ n2_ n3_;clear hb ho7;obtain ⟨Ao8,co8,eo8⟩ := Kd.R_slice HO106.out;subst eo8)|((with_reducible refine gate_callee (f := 32) rfl ?_);refine goesM_ (some 8) Try.func32 #[.pointer (some ⟨g,0,none⟩),.slice Ao8 y104.length co8] ?_;(with_reducible refine (spec_l1Cur_among.calls g s0_0 t102 t103 _ _ y104 t107 t108 t109 w0 _ ?side1 ?side2 ?side3 ?side4 ?side5 A3.out).mono ?_);(case side1 => repeat (first|(with_reducible first|exact HI0.out | apply zsA | apply zsB | apply zsC | apply zsD | apply zsE) | exact HI0.out));(case side2 => repeat (first|(with_reducible first|exact HB.out | apply zbA | apply zbB | apply zbC | refine below_set ?_ (IsS67.ge HI0.out)) | exact HB.out));(case side3 => repeat (first|exact (Kd.R_reads' HO106.out).2.2 | (with_reducible refine Kd.C_alloc ?_ _)|(with_reducible refine Kd.C_drewN ?_ _)|(with_reducible refine Kd.C_drew ?_)));(case side4 => exact (Kd.R_reads' HO106.out).2.1);(case side5 => exact far_slice (IsS67.own_ne HI0.out HO106.out (by decide)));rintro e w9 ⟨rfl,hi,hb,hk⟩;refine ⟨_,rfl,?_⟩;have n0_ := Aside0.mk (Kd.R_mono (Kd.R_keep (IsS67.apart (show IsS67 w0 _ g s0_0 t102 t103 from by repeat (first|(with_reducible first|exact HI0.out | apply zsA | apply zsB | apply zsC | apply zsD | apply zsE) | exact HI0.out)) (by (with_reducible repeat (first|apply zkA | apply zkB | apply zkC));exact HO106.out) (by decide)) hk (fun _ h => h.2)) (fun _ h => h.1));have n1_ := Aside0.mk (KeepBut.trans (by repeat (first|(with_reducible first|exact HK.out | apply zeA | apply zeB | apply zeC | apply zeD) | exact HK.out)) hk (.inl rfl));have n2_ := Aside0.mk (hb);have n3_ := Aside0.mk (hi);clear HO106;clear HK;clear HB;clear HI0;have HO106 := n0_;have HK := n1_;have HB := n2_;have HI0 := n3_;clear n0_ n1_ n2_ n3_;(try clear hb))|((with_reducible refine gate_dst (N := 9) rfl ?_);refine Kd.R_lit (Kd.int .i64) _ 3 ?hg (N := 9) ?hd (xs := ([0,5,10,14,20,t101,99998,99999,t107] : List Int)) (inner := [.int .i64 0,.int .i64 5,.int .i64 10,.int .i64 14,.int .i64 20,.int .i64 t101,.int .i64 99998,.int .i64 99999,.int .i64 t107]) (ok := fun _ => True) (okp := fun _ => True) ?hr ?hp (fun _ hk => hk) trivial (Below.refl _ _) (Nat.le_refl _) (by simp) ?_;(case hd => rfl);(case hg => rfl);(case hr => first|(go_simp;done)|(go_simp;rfl));(case hp => exact (Reps.one (show Kd.M (Kd.int .i64) _ _ _ 0 [.int .i64 0] from rfl) (Reps.one (show Kd.M (Kd.int .i64) _ _ _ 5 [.int .i64 5] from rfl) (Reps.one (show Kd.M (Kd.int .i64) _ _ _ 10 [.int .i64 10] from rfl) (Reps.one (show Kd.M (Kd.int .i64) _ _ _ 14 [.int .i64 14] from rfl) (Reps.one (show Kd.M (Kd.int .i64) _ _ _ 20 [.int .i64 20] from rfl) (Reps.one (show Kd.M (Kd.int .i64) _ _ _ t101 [.int .i64 t101] from rfl) (Reps.one (show Kd.M (Kd.int .i64) _ _ _ 99998 [.int .i64 99998] from rfl) (Reps.one (show Kd.M (Kd.int .i64) _ _ _ 99999 [.int .i64 99999] from rfl) (Reps.one (show Kd.M (Kd.int .i64) _ _ _ t107 [.int .i64 t107] from rfl) (Reps.none _ _)))))))))));intro v111 w10 ho11 hb hg_ hnew_;clear hg_ hnew_;(first|rw [← Ny110.out] at ho11 | (simp only [Int.reduceToNat] at ho11;rw [← Ny110.out] at ho11));have n0_ := Aside0.mk (Kd.R_elder' (by (with_reducible repeat (first|apply zkA | apply zkB | apply zkC));exact HO106.out) (Kd.R_base ho11) hb);have n1_ := Aside0.mk (Kd.R_lower (Kd.R_new' ho11 (Kd.R_lt (by (with_reducible repeat (first|apply zkA | apply zkB | apply zkC));exact HO106.out))) (keep_size (w := w) (g := g) (row := none) (by repeat (first|(with_reducible first|exact HK.out | apply zeA | apply zeB | apply zeC | apply zeD) | exact HK.out))));have n2_ := Aside0.mk (IsS67.below (by repeat (first|(with_reducible first|exact HI0.out | apply zsA | apply zsB | apply zsC | apply zsD | apply zsE) | exact HI0.out)) hb);have n3_ := Aside0.mk (KeepBut.trans (by repeat (first|(with_reducible first|exact HK.out | apply zeA | apply zeB | apply zeC | apply zeD) | exact HK.out)) (KeepBut.of_below hb g none) (.inl rfl));have n4_ := Aside0.mk (below_step (by repeat (first|(with_reducible first|exact HB.out | apply zbA | apply zbB | apply zbC | refine below_set ?_ (IsS67.ge HI0.out)) | exact HB.out)) hb);clear HO106;clear HI0;clear HK;clear HB;have HO106 := n0_;have HO112 := n1_;have HI0 := n2_;have HK := n3_;have HB := n4_;clear n0_ n1_ n2_ n3_ n4_;clear hb ho11;obtain ⟨Ao12,co12,eo12⟩ := Kd.R_slice HO112.out;subst eo12)|((with_reducible refine gate_callee (f := 32) rfl ?_);refine goesM_ (some 10) Try.func32 #[.pointer (some ⟨g,0,none⟩),.slice Ao12 y110.length co12] ?_;(with_reducible refine (spec_l1Cur_among.calls g s0_0 t108 t109 _ _ y110 t113 t114 t115 w0 _ ?side1 ?side2 ?side3 ?side4 ?side5 A4.out).mono ?_);(case side1 => repeat (first|(with_reducible first|exact HI0.out | apply zsA | apply zsB | apply zsC | apply zsD | apply zsE) | exact HI0.out));(case side2 => repeat (first|(with_reducible first|exact HB.out | apply zbA | apply zbB | apply zbC | refine below_set ?_ (IsS67.ge HI0.out)) | exact HB.out));(case side3 => repeat (first|exact (Kd.R_reads' HO112.out).2.2 | (with_reducible refine Kd.C_alloc ?_ _)|(with_reducible refine Kd.C_drewN ?_ _)|(with_reducible refine Kd.C_drew ?_)));(case side4 => exact (Kd.R_reads' HO112.out).2.1);(case side5 => exact far_slice (IsS67.own_ne HI0.out HO112.out (by decide)));rintro e w13 ⟨rfl,hi,hb,hk⟩;refine ⟨_,rfl,?_⟩;have n0_ := Aside0.mk (Kd.R_mono (Kd.R_keep (IsS67.apart (show IsS67 w0 _ g s0_0 t108 t109 from by repeat (first|(with_reducible first|exact HI0.out | apply zsA | apply zsB | apply zsC | apply zsD | apply zsE) | exact HI0.out)) (by (with_reducible repeat (first|apply zkA | apply zkB | apply zkC));exact HO106.out) (by decide)) hk (fun _ h => h.2)) (fun _ h => h.1));have n1_ := Aside0.mk (Kd.R_mono (Kd.R_keep (IsS67.apart (show IsS67 w0 _ g s0_0 t108 t109 from by repeat (first|(with_reducible first|exact HI0.out | apply zsA | apply zsB | apply zsC | apply zsD | apply zsE) | exact HI0.out)) (by (with_reducible repeat (first|apply zkA | apply zkB | apply zkC));exact HO112.out) (by decide)) hk (fun _ h => h.2)) (fun _ h => h.1));have n2_ := Aside0.mk (KeepBut.trans (by repeat (first|(with_reducible first|exact HK.out | apply zeA | apply zeB | apply zeC | apply zeD) | exact HK.out)) hk (.inl rfl));have n3_ := Aside0.mk (hb);have n4_ := Aside0.mk (hi);clear HO106;clear HO112;clear HK;clear HB;clear HI0;have HO106 := n0_;have HO112 := n1_;have HK := n2_;have HB := n3_;have HI0 := n4_;clear n0_ n1_ n2_ n3_ n4_;(try clear hb)))
 go_ret
 exact ⟨by first|rfl | (simp [*,errW_none,errW_some] <;> rfl),by repeat (first|(with_reducible first|exact HI0.out | apply zsA | apply zsB | apply zsC | apply zsD | apply zsE) | exact HI0.out),by repeat (first|(with_reducible first|exact HB.out | apply zbA | apply zbB | apply zbC | refine below_set ?_ (IsS67.ge HI0.out)) | exact HB.out),by repeat (first|(with_reducible first|exact HK.out | apply zeA | apply zeB | apply zeC | apply zeD) | exact HK.out)⟩

/-! ### spec_l1Cur_one: function 34 -/
def spec_l1Cur_one.f (s0_0 : List Int) (s0_1 : Int) (s0_2 : Int) (a1 : Int) : Option (Bool × Int × Int) := (spec_l1Cur_pick.f s0_0 s0_1 s0_2 a1).bind fun bt101 => (some ((bt101.1 == 0),bt101.2.1,bt101.2.2))
set_option maxHeartbeats 3000000 in
set_option maxRecDepth 100000 in
theorem spec_l1Cur_one.calls (g : Nat) (s0_0 : List Int) (s0_1 : Int) (s0_2 : Int) (a1 : Int) (r1 : Bool) (r2 : Int) (r3 : Int) (w0 w : World) (hI : IsS67 w0 w g s0_0 s0_1 s0_2) (hB : Below w0.heap.size w0 w) (h : spec_l1Cur_one.f s0_0 s0_1 s0_2 a1 = some (r1,r2,r3)) :
  Calls Try.prog 34 #[.pointer (some ⟨g,0,none⟩),.int .i64 a1] w fun e w' => e = .returned (.bool r1) ∧ IsS67 w0 w' g s0_0 r2 r3 ∧ Below w0.heap.size w0 w' ∧ KeepBut w w' g none := by
 have HI0 := Aside0.mk hI
 have HK := Aside0.mk (KeepBut.refl w g none)
 have HL := Aside0.mk hB.size
 clear hI
 have HW0 := Aside0.mk hB.size
 have HB := Aside0.mk hB
 clear hB
 have H : ((spec_l1Cur_pick.f s0_0 s0_1 s0_2 a1).bind fun bt101 => (some ((bt101.1 == 0),bt101.2.1,bt101.2.2))) = some (r1,r2,r3) := h
 clear h
 replace H := Option.bind_eq_some_iff.mp H
 obtain ⟨⟨t101,t102,t103⟩,A30,H⟩ := H
 try dsimp only at H
 have A3 := Aside0.mk A30
 clear A30
 simp only [Option.some.injEq,Prod.mk.injEq] at H
 obtain ⟨rfl,rfl,rfl⟩ := H
 go_enter Try.func34,Try.ntmps34
 go_wp2_with (first|((with_reducible refine gate_callee (f := 42) rfl ?_);refine goesM_ (some 7) Try.func42 #[.pointer (some ⟨g,0,none⟩),.int .i64 a1] ?_;(with_reducible refine (spec_l1Cur_pick.calls g s0_0 s0_1 s0_2 a1 t101 t102 t103 w0 _ ?side1 ?side2 A3.out).mono ?_);(case side1 => repeat (first|(with_reducible first|exact HI0.out | apply zsA | apply zsB | apply zsC | apply zsD | apply zsE) | exact HI0.out));(case side2 => repeat (first|(with_reducible first|exact HB.out | apply zbA | apply zbB | apply zbC | refine below_set ?_ (IsS67.ge HI0.out)) | exact HB.out));rintro e w4 ⟨rfl,hi,hb,hk⟩;refine ⟨_,rfl,?_⟩;have n0_ := Aside0.mk (KeepBut.trans (by repeat (first|(with_reducible first|exact HK.out | apply zeA | apply zeB | apply zeC | apply zeD) | exact HK.out)) hk (.inl rfl));have n1_ := Aside0.mk (hb);have n2_ := Aside0.mk (hi);clear HK;clear HB;clear HI0;have HK := n0_;have HB := n1_;have HI0 := n2_;clear n0_ n1_ n2_;(try clear hb)))
 go_ret
 exact ⟨by first|rfl | (simp [*,errW_none,errW_some] <;> rfl),by repeat (first|(with_reducible first|exact HI0.out | apply zsA | apply zsB | apply zsC | apply zsD | apply zsE) | exact HI0.out),by repeat (first|(with_reducible first|exact HB.out | apply zbA | apply zbB | apply zbC | refine below_set ?_ (IsS67.ge HI0.out)) | exact HB.out),by repeat (first|(with_reducible first|exact HK.out | apply zeA | apply zeB | apply zeC | apply zeD) | exact HK.out)⟩

/-! ### spec_DrawAnswerCard: function 5 -/
def spec_DrawAnswerCard.f (k : Nat) (l0 : List Int) : Option (ByteArray × Int × Int × Int × Bool) := (spec_l1Cur_card.f k l0 0 0 (⟨#[71,79]⟩ : ByteArray)).bind fun bt103 => ((spec_l1Cur_cardDay.f l0 bt103.2.2.2.1 bt103.2.2.2.2).bind fun bt109 => ((spec_l1Cur_cardDay.f l0 bt109.2.1 bt109.2.2).bind fun bt112 => ((spec_l1Cur_among.f l0 bt112.2.1 bt112.2.2 (([bt103.2.2.1,bt103.2.2.1,bt109.1,bt112.1] : List Int))).bind fun bt118 => ((spec_l1Cur_one.f l0 bt118.2.1 bt118.2.2 2).bind fun bt121 => (some (bt103.1,bt103.2.1,bt103.2.2.1,bt118.1,bt121.1))))))
theorem spec_DrawAnswerCard.mono : ∀ a0 k,LeO (spec_DrawAnswerCard.f k a0) (spec_DrawAnswerCard.f (k + 1) a0) := by
 intro a0 k
 unfold spec_DrawAnswerCard.f
 repeat' first
   | (with_reducible exact spec_l1Cur_card.mono _ _ _ _ _)
   | (with_reducible exact LeO.refl _)
   | (with_reducible exact LeO.none _)
   | (with_reducible refine LeO.ite ?_ ?_)
   | (with_reducible refine LeO.bind ?_ (fun _ => ?_))
def spec_DrawAnswerCard.T3 : Bool × List (List Nat × List Nat) := (true,[([],[]),([],[]),([],[]),([2],[2]),([],[]),([4],[4]),([],[]),([6],[6]),([],[]),([8,7],[8]),([3,5,7,9],[3,5,7,9]),([1,10,9],[1,10]),([],[]),([12,11],[12]),([0,13,0],[0]),([11,14,0,1,2,3,4,5,6,7,8,9,10,11,14],[11]),([13,15,0,1,2,3,4,5,6,7,8,9,10,11,12,13,14,15],[13])])
def spec_DrawAnswerCard.B3 : List Nat := [0,0,0,4,0,16,0,64,0,448,1020,2046,0,8190,16383,32767,65535]
theorem spec_DrawAnswerCard.tab3 : rtab .any (opsOf Try.f5 3) = spec_DrawAnswerCard.T3 := by kernel_rfl
theorem spec_DrawAnswerCard.bits3 : waitsOk spec_DrawAnswerCard.T3.2 spec_DrawAnswerCard.B3 = true := by kernel_rfl
set_option maxHeartbeats 3000000 in
set_option maxRecDepth 100000 in
theorem spec_DrawAnswerCard.calls (k : Nat) (A0 : Option Addr) (c0 : Nat) (l0 : List Int) (r1 : ByteArray) (r2 : Int) (r3 : Int) (r4 : Int) (r5 : Bool) (w : World) (hr0 : Kd.C (Kd.int .u8) w A0 l0.length l0) (hc0 : l0.length ≤ c0) (h : spec_DrawAnswerCard.f k l0 = some (r1,r2,r3,r4,r5)) :
  Calls Try.prog 5 #[.slice A0 l0.length c0] w fun e w' => e = .returned (.tuple #[.agg #[.string r1,.int .i64 r2,.int .i64 r3],.int .i64 r4,.bool r5]) ∧ Below w.heap.size w w' := by
 have hu24 := Try.underlying24
 have hu67 := Try.underlying67
 have HR0 := Aside0.mk hr0
 have HC0 := Aside0.mk hc0
 clear hr0 hc0
 have HB := Aside0.mk (Below.refl w.heap.size w)
 have H : ((spec_l1Cur_card.f k l0 0 0 (⟨#[71,79]⟩ : ByteArray)).bind fun bt103 => ((spec_l1Cur_cardDay.f l0 bt103.2.2.2.1 bt103.2.2.2.2).bind fun bt109 => ((spec_l1Cur_cardDay.f l0 bt109.2.1 bt109.2.2).bind fun bt112 => ((spec_l1Cur_among.f l0 bt112.2.1 bt112.2.2 (([bt103.2.2.1,bt103.2.2.1,bt109.1,bt112.1] : List Int))).bind fun bt118 => ((spec_l1Cur_one.f l0 bt118.2.1 bt118.2.2 2).bind fun bt121 => (some (bt103.1,bt103.2.1,bt103.2.2.1,bt118.1,bt121.1))))))) = some (r1,r2,r3,r4,r5) := h
 clear h
 replace H := Option.bind_eq_some_iff.mp H
 obtain ⟨⟨t103,t104,t105,t106,t107⟩,A20,H⟩ := H
 try dsimp only at H
 have A2 := Aside0.mk A20
 clear A20
 replace H := Option.bind_eq_some_iff.mp H
 obtain ⟨⟨t109,t110,t111⟩,A30,H⟩ := H
 try dsimp only at H
 have A3 := Aside0.mk A30
 clear A30
 replace H := Option.bind_eq_some_iff.mp H
 obtain ⟨⟨t112,t113,t114⟩,A40,H⟩ := H
 try dsimp only at H
 have A4 := Aside0.mk A40
 clear A40
 obtain ⟨y115,hy115⟩ : ∃ y_ : List Int,y_ = (([t105,t105,t109,t112] : List Int)) := ⟨_,rfl⟩
 replace H : ((spec_l1Cur_among.f l0 t113 t114 y115).bind fun bt118 => ((spec_l1Cur_one.f l0 bt118.2.1 bt118.2.2 2).bind fun bt121 => (some (t103,t104,t105,bt118.1,bt121.1)))) = some (r1,r2,r3,r4,r5) := by first|(rw [hy115];with_reducible exact H)|(have H2_ := (Option.bind_some _ _).symm.trans H;rw [hy115];with_reducible exact H2_)|(have H2_ := (Option.bind_some _ _).symm.trans H;with_reducible exact H2_) | with_reducible exact H | (rw [hy115];exact H) | exact H
 have Ny115 := Aside0.mk hy115
 clear hy115
 replace H := Option.bind_eq_some_iff.mp H
 obtain ⟨⟨t118,t119,t120⟩,A50,H⟩ := H
 try dsimp only at H
 have A5 := Aside0.mk A50
 clear A50
 replace H := Option.bind_eq_some_iff.mp H
 obtain ⟨⟨t121,t122,t123⟩,A60,H⟩ := H
 try dsimp only at H
 have A6 := Aside0.mk A60
 clear A60
 simp only [Option.some.injEq,Prod.mk.injEq] at H
 obtain ⟨rfl,rfl,rfl,rfl,rfl⟩ := H
 go_enter Try.func5,Try.ntmps5
 try go_wp2_with (first|((with_reducible refine gate_dst (N := 2) rfl ?_);refine box_event ?hg (N := 2) ?hd (cs := #[.string (⟨#[]⟩ : ByteArray),.int .i64 0,.int .i64 0]) (t := 24) ?hr ?_;(case hd => rfl);(case hg => rfl);(case hr => first|(go_simp;done)|(go_simp;rfl));intro gb101 hg w7 hbox hb;have n0_ := Aside0.mk (below_step (by repeat (first|exact HB.out | apply zbA | apply zbB | apply zbC)) hb);have n1_ := Aside0.mk (hbox);have n2_ := Aside0.mk ((by rw [hg];exact (below_size (by repeat (first|exact HB.out | apply zbA | apply zbB | apply zbC))) : w.heap.size ≤ gb101));have n3_ := Aside0.mk ((by rw [hg];exact (below_size (by repeat (first|exact HB.out | apply zbA | apply zbB | apply zbC))) : w.heap.size ≤ gb101));clear HB;have HB := n0_;have BK101 := n1_;have GW101 := n2_;have GE101 := n3_;clear n0_ n1_ n2_ n3_;clear hb hbox hg)|((with_reducible refine gate_dst (N := 9) rfl ?_);refine box_event ?hg (N := 9) ?hd (cs := #[.slice A0 l0.length c0,.int .i64 0,.int .u64 0]) (t := 67) ?hr ?_;(case hd => rfl);(case hg => rfl);(case hr => first|(go_simp;done)|(go_simp;rfl));intro gb102 hg w8 hbox hb;have n0_ := Aside0.mk (blk_below (g := gb101) (o := .cells #[.string (⟨#[]⟩ : ByteArray),.int .i64 0,.int .i64 0] 24 (0,0)) (by (with_reducible repeat (first|apply zhA | apply zhB | apply zhC));exact BK101.out) hb);have n1_ := Aside0.mk (below_step (by repeat (first|(with_reducible first|exact HB.out | apply zbA | apply zbB | apply zbC | refine below_set ?_ GE101.out) | exact HB.out)) hb);have n2_ := Aside0.mk ((⟨_,_,hbox,(by rw [hg];exact (below_size (by repeat (first|(with_reducible first|exact HB.out | apply zbA | apply zbB | apply zbC | refine below_set ?_ GE101.out) | exact HB.out)))),HR0.out⟩ : IsS67 w w8 gb102 l0 0 0));have n3_ := Aside0.mk ((by rw [hg];exact Nat.ne_of_lt (blk_lt (g := gb101) (o := .cells #[.string (⟨#[]⟩ : ByteArray),.int .i64 0,.int .i64 0] 24 (0,0)) (by (with_reducible repeat (first|apply zhA | apply zhB | apply zhC));exact BK101.out)) : gb101 ≠ gb102));have n4_ := Aside0.mk ((by rw [hg];exact Nat.ne_of_gt (blk_lt (g := gb101) (o := .cells #[.string (⟨#[]⟩ : ByteArray),.int .i64 0,.int .i64 0] 24 (0,0)) (by (with_reducible repeat (first|apply zhA | apply zhB | apply zhC));exact BK101.out)) : gb102 ≠ gb101));clear BK101;clear HB;have BK101 := n0_;have HB := n1_;have HI102 := n2_;have NB101_102 := n3_;have NB102_101 := n4_;clear n0_ n1_ n2_ n3_ n4_;clear hb hbox hg)|((with_reducible refine gate_callee (f := 31) rfl ?_);refine goesL_ (some 11) rfl rfl Try.func31 (by kernel_rfl) rfl #[.pointer (some ⟨gb102,0,none⟩),.string (⟨#[71,79]⟩ : ByteArray)] rfl (by (try simp only [List.map_toArray,List.map_cons,List.map_nil]);first|done | rfl | (simp only [List.length_drop,List.length_take];rfl)) ?_;(with_reducible refine (spec_l1Cur_card.calls k gb102 l0 0 0 (⟨#[71,79]⟩ : ByteArray) t103 t104 t105 t106 t107 w _ ?side1 ?side2 A2.out).mono ?_);(case side1 => repeat (first|(with_reducible first|exact HI102.out | apply zsA | apply zsB | apply zsC | apply zsD | apply zsE | apply zsF NB102_101.out) | exact HI102.out));(case side2 => repeat (first|(with_reducible first|exact HB.out | apply zbA | apply zbB | apply zbC | refine below_set ?_ (IsS67.ge HI102.out) | refine below_set ?_ GE101.out) | exact HB.out));rintro e w9 ⟨rfl,hi,hb,hk⟩;refine ⟨_,rfl,?_⟩;have n0_ := Aside0.mk (KeepBut.blk hk (g' := gb101) (o := .cells #[.string (⟨#[]⟩ : ByteArray),.int .i64 0,.int .i64 0] 24 (0,0)) (by (with_reducible repeat (first|apply zhA | apply zhB | apply zhC));exact BK101.out) NB101_102.out (by simp));have n1_ := Aside0.mk (hb);have n2_ := Aside0.mk (hi);clear BK101;clear HB;clear HI102;have BK101 := n0_;have HB := n1_;have HI102 := n2_;clear n0_ n1_ n2_;(try clear hb))|((with_reducible refine gate_dst (N := 6) rfl ?_);refine box_event ?hg (N := 6) ?hd (cs := #[.string (⟨#[]⟩ : ByteArray),.int .i64 0,.int .i64 0]) (t := 24) ?hr ?_;(case hd => rfl);(case hg => rfl);(case hr => first|(go_simp;done)|(go_simp;rfl));intro gb108 hg w10 hbox hb;have n0_ := Aside0.mk (blk_below (g := gb101) (o := .cells #[.string (⟨#[]⟩ : ByteArray),.int .i64 0,.int .i64 0] 24 (0,0)) (by (with_reducible repeat (first|apply zhA | apply zhB | apply zhC));exact BK101.out) hb);have n1_ := Aside0.mk (IsS67.below (by repeat (first|(with_reducible first|exact HI102.out | apply zsA | apply zsB | apply zsC | apply zsD | apply zsE | apply zsF NB102_101.out) | exact HI102.out)) hb);have n2_ := Aside0.mk (below_step (by repeat (first|(with_reducible first|exact HB.out | apply zbA | apply zbB | apply zbC | refine below_set ?_ (IsS67.ge HI102.out) | refine below_set ?_ GE101.out) | exact HB.out)) hb);have n3_ := Aside0.mk (hbox);have n4_ := Aside0.mk ((by rw [hg];exact (below_size (by repeat (first|(with_reducible first|exact HB.out | apply zbA | apply zbB | apply zbC | refine below_set ?_ (IsS67.ge HI102.out) | refine below_set ?_ GE101.out) | exact HB.out))) : w.heap.size ≤ gb108));have n5_ := Aside0.mk ((by rw [hg];exact (below_size (by repeat (first|(with_reducible first|exact HB.out | apply zbA | apply zbB | apply zbC | refine below_set ?_ (IsS67.ge HI102.out) | refine below_set ?_ GE101.out) | exact HB.out))) : w.heap.size ≤ gb108));have n6_ := Aside0.mk ((by rw [hg];exact Nat.ne_of_lt (blk_lt (g := gb101) (o := .cells #[.string (⟨#[]⟩ : ByteArray),.int .i64 0,.int .i64 0] 24 (0,0)) (by (with_reducible repeat (first|apply zhA | apply zhB | apply zhC));exact BK101.out)) : gb101 ≠ gb108));have n7_ := Aside0.mk ((by rw [hg];exact Nat.ne_of_gt (blk_lt (g := gb101) (o := .cells #[.string (⟨#[]⟩ : ByteArray),.int .i64 0,.int .i64 0] 24 (0,0)) (by (with_reducible repeat (first|apply zhA | apply zhB | apply zhC));exact BK101.out)) : gb108 ≠ gb101));have n8_ := Aside0.mk ((by rw [hg];exact Nat.ne_of_lt (IsS67.lt (show IsS67 w _ gb102 l0 t106 t107 from by repeat (first|(with_reducible first|exact HI102.out | apply zsA | apply zsB | apply zsC | apply zsD | apply zsE | apply zsF NB102_101.out) | exact HI102.out))) : gb102 ≠ gb108));have n9_ := Aside0.mk ((by rw [hg];exact Nat.ne_of_gt (IsS67.lt (show IsS67 w _ gb102 l0 t106 t107 from by repeat (first|(with_reducible first|exact HI102.out | apply zsA | apply zsB | apply zsC | apply zsD | apply zsE | apply zsF NB102_101.out) | exact HI102.out))) : gb108 ≠ gb102));clear BK101;clear HI102;clear HB;have BK101 := n0_;have HI102 := n1_;have HB := n2_;have BK108 := n3_;have GW108 := n4_;have GE108 := n5_;have NB101_108 := n6_;have NB108_101 := n7_;have NB102_108 := n8_;have NB108_102 := n9_;clear n0_ n1_ n2_ n3_ n4_ n5_ n6_ n7_ n8_ n9_;clear hb hbox hg;have hnb11 := NB108_101.out;have hnc11 := NB101_108.out;have hnb12 := NB108_102.out;have hnc12 := NB102_108.out;have hcz13_0 : w10.cell? ⟨gb108,0,none⟩ = some (.string (⟨#[]⟩ : ByteArray)) := (blk_cell BK108.out 0).trans rfl;have hcz13_1 : w10.cell? ⟨gb108,1,none⟩ = some (.int .i64 0) := (blk_cell BK108.out 1).trans rfl;have hcz13_2 : w10.cell? ⟨gb108,2,none⟩ = some (.int .i64 0) := (blk_cell BK108.out 2).trans rfl;have hfz13_0 := blk_frozen BK108.out 0;have hfz13_1 := blk_frozen BK108.out 1;have hfz13_2 := blk_frozen BK108.out 2))
 have n0_ : Aside0 ((((w10.setCell ⟨gb108,0,none⟩ (.string t103)).setCell ⟨gb108,1,none⟩ (.int .i64 t104)).setCell ⟨gb108,2,none⟩ (.int .i64 t105)).heap[gb101]? = some (.cells #[.string (⟨#[]⟩ : ByteArray),.int .i64 0,.int .i64 0] 24 (0,0))) := ⟨by (with_reducible repeat (first|apply zhA | apply zhB | apply zhC));refine blk_far ?_ NB101_108.out _;(with_reducible repeat (first|apply zhA | apply zhB | apply zhC));refine blk_far ?_ NB101_108.out _;(with_reducible repeat (first|apply zhA | apply zhB | apply zhC));refine blk_far ?_ NB101_108.out _;(with_reducible repeat (first|apply zhA | apply zhB | apply zhC));exact BK101.out⟩
 have n1_ : Aside0 ((((w10.setCell ⟨gb108,0,none⟩ (.string t103)).setCell ⟨gb108,1,none⟩ (.int .i64 t104)).setCell ⟨gb108,2,none⟩ (.int .i64 t105)).heap[gb108]? = some (.cells #[.string t103,.int .i64 t104,.int .i64 t105] 24 (0,0))) := ⟨by (with_reducible repeat (first|apply zhA | apply zhB | apply zhC));refine blk_put (cs := #[.string t103,.int .i64 t104,.int .i64 0]) ?_ 2 _ rfl;(with_reducible repeat (first|apply zhA | apply zhB | apply zhC));refine blk_put (cs := #[.string t103,.int .i64 0,.int .i64 0]) ?_ 1 _ rfl;(with_reducible repeat (first|apply zhA | apply zhB | apply zhC));refine blk_put (cs := #[.string (⟨#[]⟩ : ByteArray),.int .i64 0,.int .i64 0]) ?_ 0 _ rfl;(with_reducible repeat (first|apply zhA | apply zhB | apply zhC));exact BK108.out⟩
 have n2_ : Aside0 (IsS67 w (((w10.setCell ⟨gb108,0,none⟩ (.string t103)).setCell ⟨gb108,1,none⟩ (.int .i64 t104)).setCell ⟨gb108,2,none⟩ (.int .i64 t105)) gb102 l0 t106 t107) := ⟨by repeat (first|(with_reducible first|exact HI102.out | apply zsA | apply zsB | apply zsC | apply zsD | apply zsE | apply zsF NB102_101.out | apply zsF NB102_108.out) | exact HI102.out)⟩
 have n3_ : Aside0 (Below w.heap.size w (((w10.setCell ⟨gb108,0,none⟩ (.string t103)).setCell ⟨gb108,1,none⟩ (.int .i64 t104)).setCell ⟨gb108,2,none⟩ (.int .i64 t105))) := ⟨by repeat (first|(with_reducible first|exact HB.out | apply zbA | apply zbB | apply zbC | refine below_set ?_ (IsS67.ge HI102.out) | refine below_set ?_ GE101.out | refine below_set ?_ GE108.out) | exact HB.out)⟩
 (try clear BK101)
 (try clear BK108)
 (try clear HI102)
 (try clear HB)
 generalize (((w10.setCell ⟨gb108,0,none⟩ (.string t103)).setCell ⟨gb108,1,none⟩ (.int .i64 t104)).setCell ⟨gb108,2,none⟩ (.int .i64 t105)) = w14 at n0_ n1_ n2_ n3_ ⊢
 have BK101 := n0_
 have BK108 := n1_
 have HI102 := n2_
 have HB := n3_
 clear n0_ n1_ n2_ n3_
 have n0_ := Aside0.mk (blk_drew BK101.out)
 have n1_ := Aside0.mk (blk_drew BK108.out)
 have n2_ := Aside0.mk (IsS67.drew HI102.out)
 have n3_ := Aside0.mk (below_drew1 HB.out)
 clear BK101
 clear BK108
 clear HI102
 clear HB
 have BK101 := n0_
 have BK108 := n1_
 have HI102 := n2_
 have HB := n3_
 clear n0_ n1_ n2_ n3_
 refine start_ (n := 17) (S := fun w' => w'.cell? ⟨gb108,0,none⟩ = some (.string t103) ∧ w'.cell? ⟨gb108,1,none⟩ = some (.int .i64 t104) ∧ w'.cell? ⟨gb108,2,none⟩ = some (.int .i64 t105)) (ds := []) #[X,X,X,X,X,X,X,X,X,X,X,X,X,X,X,X,X] (by kernel_rfl) rfl rfl ⟨(blk_cell BK108.out 0).trans rfl,(blk_cell BK108.out 1).trans rfl,(blk_cell BK108.out 2).trans rfl⟩ (fun hHeld => ?_);refine with_tabW spec_DrawAnswerCard.tab3 spec_DrawAnswerCard.bits3 (fun HT_ HW_ => ?_)
 generalize w14.drew = w15 at BK101 BK108 HI102 HB hHeld ⊢
 refine pure_ (i := 1) (N := some 13) (v := ?_) (a' := ?_) #[X,Y,X,X,X,X,X,X,X,X,X,X,X,X,X,X,X] rfl rfl (any_of HT_.out (by kernel_rfl)) (fun _ _ _ h => h) (Or.inl ⟨by rfl,?_⟩) ?_ ?_
 rotate_left
 ·intro w'
  go_simp
  with_reducible rfl
 rotate_left
 ·simp only [Act.put,List.setIfInBounds_toArray,List.set_cons_zero,List.set_cons_succ,i64_w,i32_w]
  rfl
 refine pure_ (i := 2) (N := some 14) (v := ?_) (a' := ?_) #[X,Y,Y,X,X,X,X,X,X,X,X,X,X,X,X,X,X] rfl rfl (any_of HT_.out (by kernel_rfl)) (fun _ _ _ h => h) (Or.inl ⟨by rfl,?_⟩) ?_ ?_
 rotate_left
 ·intro w'
  go_simp
  with_reducible rfl
 rotate_left
 ·simp only [Act.put,List.setIfInBounds_toArray,List.set_cons_zero,List.set_cons_succ,i64_w,i32_w]
  rfl
 refine pure_ (i := 4) (N := some 16) (v := ?_) (a' := ?_) #[X,Y,Y,X,Y,X,X,X,X,X,X,X,X,X,X,X,X] rfl rfl (any_of HT_.out (by kernel_rfl)) (fun _ _ _ h => h) (Or.inl ⟨by rfl,?_⟩) ?_ ?_
 rotate_left
 ·intro w'
  go_simp
  with_reducible rfl
 rotate_left
 ·simp only [Act.put,List.setIfInBounds_toArray,List.set_cons_zero,List.set_cons_succ,i64_w,i32_w]
  rfl
 refine pure_ (i := 6) (N := some 18) (v := ?_) (a' := ?_) #[X,Y,Y,X,Y,X,Y,X,X,X,X,X,X,X,X,X,X] rfl rfl (any_of HT_.out (by kernel_rfl)) (fun _ _ _ h => h) (Or.inl ⟨by rfl,?_⟩) ?_ ?_
 rotate_left
 ·intro w'
  go_simp
  with_reducible rfl
 rotate_left
 ·simp only [Act.put,List.setIfInBounds_toArray,List.set_cons_zero,List.set_cons_succ,i64_w,i32_w]
  rfl
 refine pure_ (i := 8) (N := some 20) (v := ?_) (a' := ?_) #[X,Y,Y,X,Y,X,Y,X,Y,X,X,X,X,X,X,X,X] rfl rfl (any_of HT_.out (by kernel_rfl)) (fun _ _ _ h => h) (Or.inl ⟨by rfl,?_⟩) ?_ ?_
 rotate_left
 ·intro w'
  go_simp
  with_reducible rfl
 rotate_left
 ·simp only [Act.put,List.setIfInBounds_toArray,List.set_cons_zero,List.set_cons_succ,i64_w,i32_w]
  rfl
 refine pure_ (i := 12) (N := some 24) (v := ?_) (a' := ?_) #[X,Y,Y,X,Y,X,Y,X,Y,X,X,X,Y,X,X,X,X] rfl rfl (any_of HT_.out (by kernel_rfl)) (fun _ _ _ h => h) (Or.inl ⟨by rfl,?_⟩) ?_ ?_
 rotate_left
 ·intro w'
  go_simp
  with_reducible rfl
 rotate_left
 ·simp only [Act.put,List.setIfInBounds_toArray,List.set_cons_zero,List.set_cons_succ,i64_w,i32_w]
  rfl
 refine take_ (i := 0) (N := some 12) (v := ?_) (a' := ?_) #[Y,Y,Y,X,Y,X,Y,X,Y,X,X,X,Y,X,X,X,X] rfl rfl (take_ofW HT_.out HW_.out (by kernel_rfl)) (fun _ _ _ h => h) (Or.inl ⟨by rfl,?_⟩) hHeld ?_ ?_
 rotate_left
 ·rintro w' ⟨s0,s1,s2⟩
  go_simp
  with_reducible rfl
 rotate_left
 ·simp only [Act.put,List.setIfInBounds_toArray,List.set_cons_zero,List.set_cons_succ,i64_w,i32_w]
  rfl
 refine take_ (i := 3) (N := some 15) (v := ?_) (a' := ?_) #[Y,Y,Y,Y,Y,X,Y,X,Y,X,X,X,Y,X,X,X,X] rfl rfl (take_ofW HT_.out HW_.out (by kernel_rfl)) (fun _ _ _ h => h) (Or.inl ⟨by rfl,?_⟩) hHeld ?_ ?_
 rotate_left
 ·rintro w' ⟨s0,s1,s2⟩
  go_simp
  with_reducible rfl
 rotate_left
 ·simp only [Act.put,List.setIfInBounds_toArray,List.set_cons_zero,List.set_cons_succ,i64_w,i32_w]
  rfl
 refine take_ (i := 5) (N := some 17) (v := ?_) (a' := ?_) #[Y,Y,Y,Y,Y,Y,Y,X,Y,X,X,X,Y,X,X,X,X] rfl rfl (take_ofW HT_.out HW_.out (by kernel_rfl)) (fun _ _ _ h => h) (Or.inl ⟨by rfl,?_⟩) hHeld ?_ ?_
 rotate_left
 ·rintro w' ⟨s0,s1,s2⟩
  go_simp
  with_reducible rfl
 rotate_left
 ·simp only [Act.put,List.setIfInBounds_toArray,List.set_cons_zero,List.set_cons_succ,i64_w,i32_w]
  rfl
 refine one_ (i := 7) (N := some 19) #[Y,Y,Y,Y,Y,Y,Y,Y,Y,X,X,X,Y,X,X,X,X] rfl rfl (one_of HT_.out (by kernel_rfl)) (by decide) (fun K hK => ?_)
 refine goes_ Try.func33 (by kernel_rfl) rfl #[.pointer (some ⟨gb102,0,none⟩)] (by rfl) rfl rfl (by (try simp only [List.map_toArray,List.map_cons,List.map_nil]);first|done | rfl | (simp only [List.length_drop,List.length_take];rfl)) ?_
 with_reducible refine (spec_l1Cur_cardDay.calls gb102 l0 t106 t107 t109 t110 t111 w _ ?side1 ?side2 A3.out).mono ?_
 (case side1 => repeat (first|(with_reducible first|exact HI102.out | apply zsA | apply zsB | apply zsC | apply zsD | apply zsE | apply zsF NB102_101.out | apply zsF NB102_108.out) | exact HI102.out))
 (case side2 => repeat (first|(with_reducible first|exact HB.out | apply zbA | apply zbB | apply zbC | refine below_set ?_ (IsS67.ge HI102.out) | refine below_set ?_ GE101.out | refine below_set ?_ GE108.out) | exact HB.out))
 rintro e w16 ⟨rfl,hi,hb,hk⟩
 refine ⟨_,rfl,?_⟩
 have n0_ := Aside0.mk (KeepBut.blk hk (g' := gb101) (o := .cells #[.string (⟨#[]⟩ : ByteArray),.int .i64 0,.int .i64 0] 24 (0,0)) (by (with_reducible repeat (first|apply zhA | apply zhB | apply zhC));exact BK101.out) NB101_102.out (by simp))
 have n1_ := Aside0.mk (KeepBut.blk hk (g' := gb108) (o := .cells #[.string t103,.int .i64 t104,.int .i64 t105] 24 (0,0)) (by (with_reducible repeat (first|apply zhA | apply zhB | apply zhC));exact BK108.out) NB108_102.out (by simp))
 have n2_ := Aside0.mk (hb)
 have n3_ := Aside0.mk (hi)
 clear BK101
 clear BK108
 clear HB
 clear HI102
 have BK101 := n0_
 have BK108 := n1_
 have HB := n2_
 have HI102 := n3_
 clear n0_ n1_ n2_ n3_
 (try clear hb)
 (try clear hb2)
 (try clear hk)
 (try clear hi)
 refine hK.out _ _ ⟨(blk_cell BK108.out 0).trans rfl,(blk_cell BK108.out 1).trans rfl,(blk_cell BK108.out 2).trans rfl⟩ (fun hHeld => ?_)
 clear hK K
 refine norm_ (a' := ?_) ?_ ?_
 rotate_left
 ·show Act.put _ (some 19) _ = _
  simp only [Act.put,List.setIfInBounds_toArray,List.set_cons_zero,List.set_cons_succ,i64_w,i32_w]
  rfl
 refine one_ (i := 9) (N := some 21) #[Y,Y,Y,Y,Y,Y,Y,Y,Y,Y,X,X,Y,X,X,X,X] rfl rfl (one_of HT_.out (by kernel_rfl)) (by decide) (fun K hK => ?_)
 refine goes_ Try.func33 (by kernel_rfl) rfl #[.pointer (some ⟨gb102,0,none⟩)] (by rfl) rfl rfl (by (try simp only [List.map_toArray,List.map_cons,List.map_nil]);first|done | rfl | (simp only [List.length_drop,List.length_take];rfl)) ?_
 with_reducible refine (spec_l1Cur_cardDay.calls gb102 l0 t110 t111 t112 t113 t114 w _ ?side1 ?side2 A4.out).mono ?_
 (case side1 => repeat (first|(with_reducible first|exact HI102.out | apply zsA | apply zsB | apply zsC | apply zsD | apply zsE | apply zsF NB102_101.out | apply zsF NB102_108.out) | exact HI102.out))
 (case side2 => repeat (first|(with_reducible first|exact HB.out | apply zbA | apply zbB | apply zbC | refine below_set ?_ (IsS67.ge HI102.out) | refine below_set ?_ GE101.out | refine below_set ?_ GE108.out) | exact HB.out))
 rintro e w17 ⟨rfl,hi,hb,hk⟩
 refine ⟨_,rfl,?_⟩
 have n0_ := Aside0.mk (KeepBut.blk hk (g' := gb101) (o := .cells #[.string (⟨#[]⟩ : ByteArray),.int .i64 0,.int .i64 0] 24 (0,0)) (by (with_reducible repeat (first|apply zhA | apply zhB | apply zhC));exact BK101.out) NB101_102.out (by simp))
 have n1_ := Aside0.mk (KeepBut.blk hk (g' := gb108) (o := .cells #[.string t103,.int .i64 t104,.int .i64 t105] 24 (0,0)) (by (with_reducible repeat (first|apply zhA | apply zhB | apply zhC));exact BK108.out) NB108_102.out (by simp))
 have n2_ := Aside0.mk (hb)
 have n3_ := Aside0.mk (hi)
 clear BK101
 clear BK108
 clear HB
 clear HI102
 have BK101 := n0_
 have BK108 := n1_
 have HB := n2_
 have HI102 := n3_
 clear n0_ n1_ n2_ n3_
 (try clear hb)
 (try clear hb2)
 (try clear hk)
 (try clear hi)
 refine hK.out _ _ ⟨(blk_cell BK108.out 0).trans rfl,(blk_cell BK108.out 1).trans rfl,(blk_cell BK108.out 2).trans rfl⟩ (fun hHeld => ?_)
 clear hK K
 refine norm_ (a' := ?_) ?_ ?_
 rotate_left
 ·show Act.put _ (some 21) _ = _
  simp only [Act.put,List.setIfInBounds_toArray,List.set_cons_zero,List.set_cons_succ,i64_w,i32_w]
  rfl
 refine one_ (i := 10) (N := some 22) #[Y,Y,Y,Y,Y,Y,Y,Y,Y,Y,Y,X,Y,X,X,X,X] rfl rfl (one_of HT_.out (by kernel_rfl)) (by decide) (fun K hK => ?_)
 refine Kd.R_lit_step (Kd.int .i64) _ 3 ?hg (N := 22) ?hd (xs := ([t105,t105,t109,t112] : List Int)) (inner := [.int .i64 t105,.int .i64 t105,.int .i64 t109,.int .i64 t112]) (ok := fun _ => True) (okp := fun _ => True) ?hr ?hp (fun _ hk => hk) trivial (Below.refl _ _) (Nat.le_refl _) (by simp) ?_;(case hd => rfl);(case hg => rfl);(case hr => first|(go_simp;done)|(go_simp;rfl));(case hp => exact (Reps.one (show Kd.M (Kd.int .i64) _ _ _ t105 [.int .i64 t105] from rfl) (Reps.one (show Kd.M (Kd.int .i64) _ _ _ t105 [.int .i64 t105] from rfl) (Reps.one (show Kd.M (Kd.int .i64) _ _ _ t109 [.int .i64 t109] from rfl) (Reps.one (show Kd.M (Kd.int .i64) _ _ _ t112 [.int .i64 t112] from rfl) (Reps.none _ _))))))
 intro v116 w18 ho19 hb hg_ hnew_
 clear hg_ hnew_
 (first|rw [← Ny115.out] at ho19 | (simp only [Int.reduceToNat] at ho19;rw [← Ny115.out] at ho19))
 have n0_ := Aside0.mk (Kd.R_lower ho19 (below_size (by repeat (first|(with_reducible first|exact HB.out | apply zbA | apply zbB | apply zbC | refine below_set ?_ (IsS67.ge HI102.out) | refine below_set ?_ GE101.out | refine below_set ?_ GE108.out) | exact HB.out))))
 have n1_ := Aside0.mk (blk_below (g := gb101) (o := .cells #[.string (⟨#[]⟩ : ByteArray),.int .i64 0,.int .i64 0] 24 (0,0)) (by (with_reducible repeat (first|apply zhA | apply zhB | apply zhC));exact BK101.out) hb)
 have n2_ := Aside0.mk (IsS67.below (by repeat (first|(with_reducible first|exact HI102.out | apply zsA | apply zsB | apply zsC | apply zsD | apply zsE | apply zsF NB102_101.out | apply zsF NB102_108.out) | exact HI102.out)) hb)
 have n3_ := Aside0.mk (blk_below (g := gb108) (o := .cells #[.string t103,.int .i64 t104,.int .i64 t105] 24 (0,0)) (by (with_reducible repeat (first|apply zhA | apply zhB | apply zhC));exact BK108.out) hb)
 have n4_ := Aside0.mk (below_step (by repeat (first|(with_reducible first|exact HB.out | apply zbA | apply zbB | apply zbC | refine below_set ?_ (IsS67.ge HI102.out) | refine below_set ?_ GE101.out | refine below_set ?_ GE108.out) | exact HB.out)) hb)
 clear BK101
 clear HI102
 clear BK108
 clear HB
 have HO117 := n0_
 have BK101 := n1_
 have HI102 := n2_
 have BK108 := n3_
 have HB := n4_
 clear n0_ n1_ n2_ n3_ n4_
 clear hb ho19
 obtain ⟨Ao20,co20,eo20⟩ := Kd.R_slice HO117.out
 (first|subst eo20 | (injection eo20 with f1_ f2_ f3_;have f4_ := f1_.symm;have f5_ := f3_.symm;clear f1_ f2_ f3_;subst f4_;subst f5_))
 refine hK.out _ _ ⟨(blk_cell BK108.out 0).trans rfl,(blk_cell BK108.out 1).trans rfl,(blk_cell BK108.out 2).trans rfl⟩ (fun hHeld => ?_)
 clear hK K
 refine norm_ (a' := ?_) ?_ ?_
 rotate_left
 ·show Act.put _ (some 22) _ = _
  simp only [Act.put,List.setIfInBounds_toArray,List.set_cons_zero,List.set_cons_succ,i64_w,i32_w]
  rfl
 refine one_ (i := 11) (N := some 23) #[Y,Y,Y,Y,Y,Y,Y,Y,Y,Y,Y,Y,Y,X,X,X,X] rfl rfl (one_of HT_.out (by kernel_rfl)) (by decide) (fun K hK => ?_)
 refine goes_ Try.func32 (by kernel_rfl) rfl #[.pointer (some ⟨gb102,0,none⟩),.slice Ao20 y115.length co20] (by rfl) rfl rfl (by (try simp only [List.map_toArray,List.map_cons,List.map_nil]);first|done | rfl | (simp only [List.length_drop,List.length_take];rfl)) ?_
 with_reducible refine (spec_l1Cur_among.calls gb102 l0 t113 t114 _ _ y115 t118 t119 t120 w _ ?side1 ?side2 ?side3 ?side4 ?side5 A5.out).mono ?_
 (case side1 => repeat (first|(with_reducible first|exact HI102.out | apply zsA | apply zsB | apply zsC | apply zsD | apply zsE | apply zsF NB102_101.out | apply zsF NB102_108.out) | exact HI102.out))
 (case side2 => repeat (first|(with_reducible first|exact HB.out | apply zbA | apply zbB | apply zbC | refine below_set ?_ (IsS67.ge HI102.out) | refine below_set ?_ GE101.out | refine below_set ?_ GE108.out) | exact HB.out))
 (case side3 => repeat (first|exact (Kd.R_reads' HO117.out).2.2 | (with_reducible refine Kd.C_alloc ?_ _)|(with_reducible refine Kd.C_drewN ?_ _)|(with_reducible refine Kd.C_drew ?_)))
 (case side4 => exact (Kd.R_reads' HO117.out).2.1)
 (case side5 => exact far_slice (IsS67.own_ne HI102.out HO117.out (by decide)))
 rintro e w21 ⟨rfl,hi,hb,hk⟩
 refine ⟨_,rfl,?_⟩
 have n0_ := Aside0.mk (KeepBut.blk hk (g' := gb101) (o := .cells #[.string (⟨#[]⟩ : ByteArray),.int .i64 0,.int .i64 0] 24 (0,0)) (by (with_reducible repeat (first|apply zhA | apply zhB | apply zhC));exact BK101.out) NB101_102.out (by simp))
 have n1_ := Aside0.mk (KeepBut.blk hk (g' := gb108) (o := .cells #[.string t103,.int .i64 t104,.int .i64 t105] 24 (0,0)) (by (with_reducible repeat (first|apply zhA | apply zhB | apply zhC));exact BK108.out) NB108_102.out (by simp))
 have n2_ := Aside0.mk (Kd.R_mono (Kd.R_keep (IsS67.apart (show IsS67 w _ gb102 l0 t113 t114 from by repeat (first|(with_reducible first|exact HI102.out | apply zsA | apply zsB | apply zsC | apply zsD | apply zsE | apply zsF NB102_101.out | apply zsF NB102_108.out) | exact HI102.out)) (by (with_reducible repeat (first|apply zkA | apply zkB | apply zkC));exact HO117.out) (by decide)) hk (fun _ h => h.2)) (fun _ h => h.1))
 have n3_ := Aside0.mk (hb)
 have n4_ := Aside0.mk (hi)
 clear BK101
 clear BK108
 clear HO117
 clear HB
 clear HI102
 have BK101 := n0_
 have BK108 := n1_
 have HO117 := n2_
 have HB := n3_
 have HI102 := n4_
 clear n0_ n1_ n2_ n3_ n4_
 (try clear hb)
 (try clear hb2)
 (try clear hk)
 (try clear hi)
 refine hK.out _ _ ⟨(blk_cell BK108.out 0).trans rfl,(blk_cell BK108.out 1).trans rfl,(blk_cell BK108.out 2).trans rfl⟩ (fun hHeld => ?_)
 clear hK K
 refine norm_ (a' := ?_) ?_ ?_
 rotate_left
 ·show Act.put _ (some 23) _ = _
  simp only [Act.put,List.setIfInBounds_toArray,List.set_cons_zero,List.set_cons_succ,i64_w,i32_w]
  rfl
 refine one_ (i := 13) (N := some 25) #[Y,Y,Y,Y,Y,Y,Y,Y,Y,Y,Y,Y,Y,Y,X,X,X] rfl rfl (one_of HT_.out (by kernel_rfl)) (by decide) (fun K hK => ?_)
 refine goes_ Try.func34 (by kernel_rfl) rfl #[.pointer (some ⟨gb102,0,none⟩),.int .i64 2] (by rfl) rfl rfl (by (try simp only [List.map_toArray,List.map_cons,List.map_nil]);first|done | rfl | (simp only [List.length_drop,List.length_take];rfl)) ?_
 with_reducible refine (spec_l1Cur_one.calls gb102 l0 t119 t120 2 t121 t122 t123 w _ ?side1 ?side2 A6.out).mono ?_
 (case side1 => repeat (first|(with_reducible first|exact HI102.out | apply zsA | apply zsB | apply zsC | apply zsD | apply zsE | apply zsF NB102_101.out | apply zsF NB102_108.out) | exact HI102.out))
 (case side2 => repeat (first|(with_reducible first|exact HB.out | apply zbA | apply zbB | apply zbC | refine below_set ?_ (IsS67.ge HI102.out) | refine below_set ?_ GE101.out | refine below_set ?_ GE108.out) | exact HB.out))
 rintro e w22 ⟨rfl,hi,hb,hk⟩
 refine ⟨_,rfl,?_⟩
 have n0_ := Aside0.mk (KeepBut.blk hk (g' := gb101) (o := .cells #[.string (⟨#[]⟩ : ByteArray),.int .i64 0,.int .i64 0] 24 (0,0)) (by (with_reducible repeat (first|apply zhA | apply zhB | apply zhC));exact BK101.out) NB101_102.out (by simp))
 have n1_ := Aside0.mk (KeepBut.blk hk (g' := gb108) (o := .cells #[.string t103,.int .i64 t104,.int .i64 t105] 24 (0,0)) (by (with_reducible repeat (first|apply zhA | apply zhB | apply zhC));exact BK108.out) NB108_102.out (by simp))
 have n2_ := Aside0.mk (Kd.R_mono (Kd.R_keep (IsS67.apart (show IsS67 w _ gb102 l0 t119 t120 from by repeat (first|(with_reducible first|exact HI102.out | apply zsA | apply zsB | apply zsC | apply zsD | apply zsE | apply zsF NB102_101.out | apply zsF NB102_108.out) | exact HI102.out)) (by (with_reducible repeat (first|apply zkA | apply zkB | apply zkC));exact HO117.out) (by decide)) hk (fun _ h => h.2)) (fun _ h => h.1))
 have n3_ := Aside0.mk (hb)
 have n4_ := Aside0.mk (hi)
 clear BK101
 clear BK108
 clear HO117
 clear HB
 clear HI102
 have BK101 := n0_
 have BK108 := n1_
 have HO117 := n2_
 have HB := n3_
 have HI102 := n4_
 clear n0_ n1_ n2_ n3_ n4_
 (try clear hb)
 (try clear hb2)
 (try clear hk)
 (try clear hi)
 refine hK.out _ _ ⟨(blk_cell BK108.out 0).trans rfl,(blk_cell BK108.out 1).trans rfl,(blk_cell BK108.out 2).trans rfl⟩ (fun hHeld => ?_)
 clear hK K
 refine norm_ (a' := ?_) ?_ ?_
 rotate_left
 ·show Act.put _ (some 25) _ = _
  simp only [Act.put,List.setIfInBounds_toArray,List.set_cons_zero,List.set_cons_succ,i64_w,i32_w]
  rfl
 refine one_ (i := 14) (N := none) #[Y,Y,Y,Y,Y,Y,Y,Y,Y,Y,Y,Y,Y,Y,Y,X,X] rfl rfl (one_of HT_.out (by kernel_rfl)) (by decide) (fun K hK => ?_)
 have hs23 : w22.cell? ⟨gb101,0,none⟩ = some (.string (⟨#[]⟩ : ByteArray)) := (blk_cell BK101.out 0).trans rfl
 have hfs23 := blk_frozen BK101.out 0
 have hns23_1 := NB108_101.out
 have hms23_1 := NB101_108.out
 have hs24 : w22.cell? ⟨gb101,1,none⟩ = some (.int .i64 0) := (blk_cell BK101.out 1).trans rfl
 have hfs24 := blk_frozen BK101.out 1
 have hns24_1 := NB108_101.out
 have hms24_1 := NB101_108.out
 have hs25 : w22.cell? ⟨gb101,2,none⟩ = some (.int .i64 0) := (blk_cell BK101.out 2).trans rfl
 have hfs25 := blk_frozen BK101.out 2
 have hns25_1 := NB108_101.out
 have hms25_1 := NB101_108.out
 refine skip_ (w1 := ?_) (by rfl) rfl ?_ ?_
 rotate_left
 ·go_simp
  rfl
 refine hK.out _ _ ⟨((cell_far (p := ⟨gb101,_,none⟩) NB108_101.out _).trans (((cell_far (p := ⟨gb101,_,none⟩) NB108_101.out _).trans (((cell_far (p := ⟨gb101,_,none⟩) NB108_101.out _).trans (hHeld.1)))))),((cell_far (p := ⟨gb101,_,none⟩) NB108_101.out _).trans (((cell_far (p := ⟨gb101,_,none⟩) NB108_101.out _).trans (((cell_far (p := ⟨gb101,_,none⟩) NB108_101.out _).trans (hHeld.2.1)))))),((cell_far (p := ⟨gb101,_,none⟩) NB108_101.out _).trans (((cell_far (p := ⟨gb101,_,none⟩) NB108_101.out _).trans (((cell_far (p := ⟨gb101,_,none⟩) NB108_101.out _).trans (hHeld.2.2))))))⟩ (fun hHeld => ?_)
 clear hK K
 refine pure_ (i := 15) (N := some 3) (v := ?_) (a' := ?_) #[Y,Y,Y,Y,Y,Y,Y,Y,Y,Y,Y,Y,Y,Y,Y,Y,X] rfl rfl (any_of HT_.out (by kernel_rfl)) (fun _ _ _ h => h) (Or.inl ⟨by rfl,?_⟩) ?_ ?_
 rotate_left
 ·intro w'
  go_simp
  with_reducible rfl
 rotate_left
 ·simp only [Act.put,List.setIfInBounds_toArray,List.set_cons_zero,List.set_cons_succ,i64_w,i32_w]
  rfl
 refine pure_ (i := 16) (N := some 4) (v := ?_) (a' := ?_) #[Y,Y,Y,Y,Y,Y,Y,Y,Y,Y,Y,Y,Y,Y,Y,Y,Y] rfl rfl (any_of HT_.out (by kernel_rfl)) (fun _ _ _ h => h) (Or.inl ⟨by rfl,?_⟩) ?_ ?_
 rotate_left
 ·intro w'
  go_simp
  with_reducible rfl
 rotate_left
 ·simp only [Act.put,List.setIfInBounds_toArray,List.set_cons_zero,List.set_cons_succ,i64_w,i32_w]
  rfl
 refine done_ (done_of HT_.out (by kernel_rfl)) ?_
 try go_wp2
 refine bodyPost_ret (results_ctt rfl _ _ gb101 24 #[.string t103,.int .i64 t104,.int .i64 t105] (0,0) _ rfl (by (with_reducible repeat (first|apply zhA | apply zhB | apply zhC));refine blk_put (cs := #[.string t103,.int .i64 t104,.int .i64 0]) ?_ 2 _ rfl;(with_reducible repeat (first|apply zhA | apply zhB | apply zhC));refine blk_put (cs := #[.string t103,.int .i64 0,.int .i64 0]) ?_ 1 _ rfl;(with_reducible repeat (first|apply zhA | apply zhB | apply zhC));refine blk_put (cs := #[.string (⟨#[]⟩ : ByteArray),.int .i64 0,.int .i64 0]) ?_ 0 _ rfl;(with_reducible repeat (first|apply zhA | apply zhB | apply zhC));exact BK101.out) Try.underlying24 rfl (by kernel_rfl)) rfl ?_
 exact ⟨by first|rfl | (simp [*,errW_none,errW_some] <;> rfl),by repeat (first|(with_reducible first|exact HB.out | apply zbA | apply zbB | apply zbC | refine below_set ?_ (IsS67.ge HI102.out) | refine below_set ?_ GE101.out | refine below_set ?_ GE108.out) | exact HB.out)⟩

/-! ### impl_within: function 56 -/
def impl_within.f (a0 : Int) (a1 : Int) (a2 : Int) : Option (Bool) := if a0 ≥ a1 then (some (decide (a0 ≤ a2))) else (some false)
set_option maxHeartbeats 3000000 in
set_option maxRecDepth 100000 in
theorem impl_within.calls (a0 : Int) (a1 : Int) (a2 : Int) (r : Bool) (w : World) (h : impl_within.f a0 a1 a2 = some r) :
  Calls Try.prog 56 #[.int .i64 a0,.int .i64 a1,.int .i64 a2] w fun e w' => e = .returned (.bool r) ∧ Drawn0 w w' := by
 have H : (if a0 ≥ a1 then (some (decide (a0 ≤ a2))) else (some false)) = some r := h
 clear h
 by_cases c4 : a0 ≥ a1
 ·rw [if_pos c4] at H
  have c4b0 : decide (a1 ≤ a0) = true := decide_eq_true c4
  clear c4
  obtain rfl := Option.some.inj H
  go_enter Try.func56,Try.ntmps56
  go_wp2
  go_ret
  exact ⟨by first|rfl | (simp;done)|(simp [*];done),by repeat (first|exact Drawn0.refl _ | apply Drawn0.step)⟩
 ·rw [if_neg c4] at H
  have c4b0 : decide (a1 ≤ a0) = false := decide_eq_false c4
  clear c4
  obtain rfl := Option.some.inj H
  go_enter Try.func56,Try.ntmps56
  go_wp2
  go_ret
  exact ⟨by first|rfl | (simp;done)|(simp [*];done),by repeat (first|exact Drawn0.refl _ | apply Drawn0.step)⟩

/-! ### impl_isFrame: function 36 -/
def impl_isFrame.f (a0 : Int) : Option (Bool) := (impl_within.f a0 0 99999).bind fun t101 => (some t101)
set_option maxHeartbeats 3000000 in
set_option maxRecDepth 100000 in
theorem impl_isFrame.calls (a0 : Int) (r : Bool) (w : World) (h : impl_isFrame.f a0 = some r) :
  Calls Try.prog 36 #[.int .i64 a0] w fun e w' => e = .returned (.bool r) ∧ Drawn0 w w' := by
 have H : ((impl_within.f a0 0 99999).bind fun t101 => (some t101)) = some r := h
 clear h
 replace H := Option.bind_eq_some_iff.mp H
 obtain ⟨t101,A20,H⟩ := H
 try dsimp only at H
 have A2 := Aside0.mk A20
 clear A20
 obtain rfl := Option.some.inj H
 go_enter Try.func36,Try.ntmps36
 go_wp2_with (first|((with_reducible refine gate_callee (f := 56) rfl ?_);refine goesM_ (some 4) Try.func56 #[.int .i64 a0,.int .i64 0,.int .i64 99999] ?_;(with_reducible refine (impl_within.calls a0 0 99999 t101 _ A2.out).mono ?_);rintro e w' ⟨rfl,⟨nd,rfl⟩⟩;refine ⟨_,rfl,?_⟩))
 go_ret
 exact ⟨by first|rfl | (simp;done)|(simp [*];done),by repeat (first|exact Drawn0.refl _ | apply Drawn0.step)⟩

/-! ### strings_IndexByte: function 96 -/
def strings_IndexByte.f (a0 : ByteArray) (a1 : Int) : Option (Int) := some (Lib.indexByte a0.data.toList a1.toNat.toUInt8)
theorem strings_IndexByte.calls (a0 : ByteArray) (a1 : Int) (r : Int) (w : World) (h : strings_IndexByte.f a0 a1 = some r) :
  Calls Try.prog 96 #[.string a0,.int .u8 a1] w fun e w' => e = .returned (.int .i64 r) ∧ Drawn0 w w' := by
 obtain rfl := Option.some.inj h
 refine (Try.strings_IndexByte a0 a1 w).mono ?_
 rintro e w' ⟨rfl,rfl⟩
 exact ⟨rfl,Drawn0.refl _⟩

/-! ### impl_hasOnly: function 95 -/
def impl_hasOnly.l0 : Nat → ByteArray → ByteArray → Int → Int → Option (Bool)
 | 0,_,_,_,_ => none
 | k + 1,x0,x1,x7,x8 => if x8 < x7 then (if 0 ≤ x8 then (if x8 < (x0.size : Int) then ((strings_IndexByte.f x1 (bt x0 x8)).bind fun t101 => (if t101 < 0 then (some false) else (impl_hasOnly.l0 k x0 x1 x7 (wrap64 (x8 + 1))))) else (none)) else (none)) else (some true)
def impl_hasOnly.f (k : Nat) (a0 : ByteArray) (a1 : ByteArray) : Option (Bool) := impl_hasOnly.l0 k a0 a1 (a0.size : Int) 0
theorem impl_hasOnly.mono_l : ∀ k,(∀ y0 y1 y2 y3,LeO (impl_hasOnly.l0 k y0 y1 y2 y3) (impl_hasOnly.l0 (k + 1) y0 y1 y2 y3))
 | 0 => fun _ _ _ _ r h => by simp [impl_hasOnly.l0] at h
 | k + 1 => by
  have ih0 := impl_hasOnly.mono_l k
  ·intro y0 y1 y2 y3
   unfold impl_hasOnly.l0
   repeat' first
   | (with_reducible exact ih0 _ _ _ _)
   | (with_reducible exact LeO.refl _)
   | (with_reducible exact LeO.none _)
   | (with_reducible refine LeO.ite ?_ ?_)
   | (with_reducible refine LeO.bind ?_ (fun _ => ?_))
theorem impl_hasOnly.mono : ∀ a0 a1 k,LeO (impl_hasOnly.f k a0 a1) (impl_hasOnly.f (k + 1) a0 a1) := by
 intro a0 a1 k
 have ih0 := impl_hasOnly.mono_l k
 unfold impl_hasOnly.f
 repeat' first
   | (with_reducible exact ih0 _ _ _ _)
   | (with_reducible exact LeO.refl _)
   | (with_reducible exact LeO.none _)
   | (with_reducible refine LeO.ite ?_ ?_)
   | (with_reducible refine LeO.bind ?_ (fun _ => ?_))
set_option maxHeartbeats 3000000 in
set_option maxRecDepth 100000 in
theorem impl_hasOnly.calls (k : Nat) (a0 : ByteArray) (a1 : ByteArray) (r : Bool) (w : World) (h : impl_hasOnly.f k a0 a1 = some r) :
  Calls Try.prog 95 #[.string a0,.string a1] w fun e w' => e = .returned (.bool r) ∧ Drawn0 w w' := by
 have H : (impl_hasOnly.l0 k a0 a1 (a0.size : Int) 0) = some r := h
 clear h
 have H' := Aside0.mk H
 clear H
 go_enter Try.func95,Try.ntmps95
 go_wp2
 go_loopg [8] k (fun kq v8 w' => ∃ (x8_1 : Int),v8 = .int .i64 x8_1 ∧ Aside0 (impl_hasOnly.l0 kq a0 a1 (a0.size : Int) x8_1 = some r) ∧ Aside0 (kq ≤ k) ∧ Drawn0 w w')
 case atStart => exact ⟨(0),(by first|rfl | (simp;done)|(simp [*];done)),H',⟨Nat.le_refl _⟩,by repeat (first|exact Drawn0.refl _ | apply Drawn0.step)⟩
 case round =>
  clear H'
  (try clear p2)
  obtain ⟨x8_1,rfl,HA,HK1,⟨m1,rfl⟩⟩ := hrel
  cases gk with
  | zero => exact absurd HA.out (by simp [impl_hasOnly.l0])
  | succ k1 =>
   have H := HA.out
   clear HA
   simp only [impl_hasOnly.l0] at H
   by_cases c3 : x8_1 < (a0.size : Int)
   ·rw [if_pos c3] at H
    have c3b0 : decide (x8_1 < (a0.size : Int)) = true := decide_eq_true c3
    clear c3
    by_cases c4 : 0 ≤ x8_1
    ·rw [if_pos c4] at H
     have c4b0 : decide (0 ≤ x8_1) = true := decide_eq_true c4
     clear c4
     by_cases c5 : x8_1 < (a0.size : Int)
     ·rw [if_pos c5] at H
      have c5b0 : decide (x8_1 < (a0.size : Int)) = true := decide_eq_true c5
      clear c5
      replace H := Option.bind_eq_some_iff.mp H
      obtain ⟨t101,A70,H⟩ := H
      try dsimp only at H
      have A7 := Aside0.mk A70
      clear A70
      by_cases c8 : t101 < 0
      ·rw [if_pos c8] at H
       have c8b0 : decide (t101 < 0) = true := decide_eq_true c8
       clear c8
       obtain rfl := Option.some.inj H
       have p6 : 0 ≤ (x8_1 : Int) := of_decide_eq_true (by assumption)
       have q6 : x8_1 < (a0.size : Int) := of_decide_eq_true (by assumption)
       have hx6 := bt_at a0 x8_1
       replace p6 := eq_true p6
       replace q6 := eq_true q6
       go_wp2_with (first|((with_reducible refine gate_callee (f := 96) rfl ?_);refine goesM_ (some 15) Try.func96 #[.string a1,.int .u8 (bt a0 x8_1)] ?_;(with_reducible refine (strings_IndexByte.calls a1 (bt a0 x8_1) t101 _ A7.out).mono ?_);rintro e w' ⟨rfl,⟨nd,rfl⟩⟩;refine ⟨_,rfl,?_⟩))
       go_ret
       exact ⟨by first|rfl | (simp;done)|(simp [*];done),by repeat (first|exact Drawn0.refl _ | apply Drawn0.step)⟩
      ·rw [if_neg c8] at H
       have c8b0 : decide (t101 < 0) = false := decide_eq_false c8
       clear c8
       have H' := Aside0.mk H
       clear H
       have p6 : 0 ≤ (x8_1 : Int) := of_decide_eq_true (by assumption)
       have q6 : x8_1 < (a0.size : Int) := of_decide_eq_true (by assumption)
       have hx6 := bt_at a0 x8_1
       replace p6 := eq_true p6
       replace q6 := eq_true q6
       go_wp2_with (first|((with_reducible refine gate_callee (f := 96) rfl ?_);refine goesM_ (some 15) Try.func96 #[.string a1,.int .u8 (bt a0 x8_1)] ?_;(with_reducible refine (strings_IndexByte.calls a1 (bt a0 x8_1) t101 _ A7.out).mono ?_);rintro e w' ⟨rfl,⟨nd,rfl⟩⟩;refine ⟨_,rfl,?_⟩))
       go_roundg k1
       case measure => have := HK1.out;omega
       case rel => exact ⟨(wrap64 (x8_1 + 1)),(by first|rfl | (simp;done)|(simp [*];done)),H',⟨by have := HK1.out;omega⟩,by repeat (first|exact Drawn0.refl _ | apply Drawn0.step)⟩
     ·rw [if_neg c5] at H
      exact absurd H (by simp)
    ·rw [if_neg c4] at H
     exact absurd H (by simp)
   ·rw [if_neg c3] at H
    have c3b0 : decide (x8_1 < (a0.size : Int)) = false := decide_eq_false c3
    clear c3
    obtain rfl := Option.some.inj H
    go_wp2
    go_ret
    exact ⟨by first|rfl | (simp;done)|(simp [*];done),by repeat (first|exact Drawn0.refl _ | apply Drawn0.step)⟩

/-! ### impl_isWordOf: function 80 -/
def impl_isWordOf.f (k : Nat) (a0 : ByteArray) (a1 : ByteArray) : Option (Bool) := (impl_within.f (a0.size : Int) 1 8).bind fun t101 => (if t101 = true then ((impl_hasOnly.f k a0 a1).bind fun t102 => (some t102)) else (some false))
theorem impl_isWordOf.mono : ∀ a0 a1 k,LeO (impl_isWordOf.f k a0 a1) (impl_isWordOf.f (k + 1) a0 a1) := by
 intro a0 a1 k
 unfold impl_isWordOf.f
 repeat' first
   | (with_reducible exact impl_hasOnly.mono _ _ _)
   | (with_reducible exact LeO.refl _)
   | (with_reducible exact LeO.none _)
   | (with_reducible refine LeO.ite ?_ ?_)
   | (with_reducible refine LeO.bind ?_ (fun _ => ?_))
set_option maxHeartbeats 3000000 in
set_option maxRecDepth 100000 in
theorem impl_isWordOf.calls (k : Nat) (a0 : ByteArray) (a1 : ByteArray) (r : Bool) (w : World) (h : impl_isWordOf.f k a0 a1 = some r) :
  Calls Try.prog 80 #[.string a0,.string a1] w fun e w' => e = .returned (.bool r) ∧ Drawn0 w w' := by
 have H : ((impl_within.f (a0.size : Int) 1 8).bind fun t101 => (if t101 = true then ((impl_hasOnly.f k a0 a1).bind fun t102 => (some t102)) else (some false))) = some r := h
 clear h
 replace H := Option.bind_eq_some_iff.mp H
 obtain ⟨t101,A30,H⟩ := H
 try dsimp only at H
 have A3 := Aside0.mk A30
 clear A30
 by_cases c4 : t101 = true
 ·subst c4
  rw [if_pos rfl] at H
  replace H := Option.bind_eq_some_iff.mp H
  obtain ⟨t102,A50,H⟩ := H
  try dsimp only at H
  have A5 := Aside0.mk A50
  clear A50
  obtain rfl := Option.some.inj H
  go_enter Try.func80,Try.ntmps80
  go_wp2_with (first|((with_reducible refine gate_callee (f := 56) rfl ?_);refine goesM_ (some 7) Try.func56 #[.int .i64 (a0.size : Int),.int .i64 1,.int .i64 8] ?_;(with_reducible refine (impl_within.calls (a0.size : Int) 1 8 true _ A3.out).mono ?_);rintro e w' ⟨rfl,⟨nd,rfl⟩⟩;refine ⟨_,rfl,?_⟩)|(go_at_call 95;(with_reducible refine (impl_hasOnly.calls k a0 a1 t102 _ A5.out).mono ?_);rintro e w' ⟨rfl,⟨nd,rfl⟩⟩))
  go_ret
  exact ⟨by first|rfl | (simp;done)|(simp [*];done),by repeat (first|exact Drawn0.refl _ | apply Drawn0.step)⟩
 ·replace c4 := Bool.eq_false_iff.mpr c4
  subst c4
  rw [if_neg (show ¬ (false = true) by decide)] at H
  obtain rfl := Option.some.inj H
  go_enter Try.func80,Try.ntmps80
  go_wp2_with (first|((with_reducible refine gate_callee (f := 56) rfl ?_);refine goesM_ (some 7) Try.func56 #[.int .i64 (a0.size : Int),.int .i64 1,.int .i64 8] ?_;(with_reducible refine (impl_within.calls (a0.size : Int) 1 8 false _ A3.out).mono ?_);rintro e w' ⟨rfl,⟨nd,rfl⟩⟩;refine ⟨_,rfl,?_⟩))
  go_ret
  exact ⟨by first|rfl | (simp;done)|(simp [*];done),by repeat (first|exact Drawn0.refl _ | apply Drawn0.step)⟩

/-! ### impl_IsGloss: function 47 -/
def impl_IsGloss.f (k : Nat) (a0 : ByteArray) : Option (Bool) := (impl_isWordOf.f k a0 (⟨#[65,66,67,68,69,70,71,72,73,74,75,76,77,78,79,80,81,82,83,84,85,86,87,88,89,90]⟩ : ByteArray)).bind fun t101 => (some t101)
theorem impl_IsGloss.mono : ∀ a0 k,LeO (impl_IsGloss.f k a0) (impl_IsGloss.f (k + 1) a0) := by
 intro a0 k
 unfold impl_IsGloss.f
 repeat' first
   | (with_reducible exact impl_isWordOf.mono _ _ _)
   | (with_reducible exact LeO.refl _)
   | (with_reducible exact LeO.none _)
   | (with_reducible refine LeO.ite ?_ ?_)
   | (with_reducible refine LeO.bind ?_ (fun _ => ?_))
set_option maxHeartbeats 3000000 in
set_option maxRecDepth 100000 in
theorem impl_IsGloss.calls (k : Nat) (a0 : ByteArray) (r : Bool) (w : World) (h : impl_IsGloss.f k a0 = some r) :
  Calls Try.prog 47 #[.string a0] w fun e w' => e = .returned (.bool r) ∧ Drawn0 w w' := by
 have H : ((impl_isWordOf.f k a0 (⟨#[65,66,67,68,69,70,71,72,73,74,75,76,77,78,79,80,81,82,83,84,85,86,87,88,89,90]⟩ : ByteArray)).bind fun t101 => (some t101)) = some r := h
 clear h
 replace H := Option.bind_eq_some_iff.mp H
 obtain ⟨t101,A20,H⟩ := H
 try dsimp only at H
 have A2 := Aside0.mk A20
 clear A20
 obtain rfl := Option.some.inj H
 go_enter Try.func47,Try.ntmps47
 go_wp2_with (first|((with_reducible refine gate_callee (f := 80) rfl ?_);refine goesL_ (some 4) rfl rfl Try.func80 (by kernel_rfl) rfl #[.string a0,.string (⟨#[65,66,67,68,69,70,71,72,73,74,75,76,77,78,79,80,81,82,83,84,85,86,87,88,89,90]⟩ : ByteArray)] rfl (by (try simp only [List.map_toArray,List.map_cons,List.map_nil]);first|done | rfl | (simp only [List.length_drop,List.length_take];rfl)) ?_;(with_reducible refine (impl_isWordOf.calls k a0 (⟨#[65,66,67,68,69,70,71,72,73,74,75,76,77,78,79,80,81,82,83,84,85,86,87,88,89,90]⟩ : ByteArray) t101 _ A2.out).mono ?_);rintro e w' ⟨rfl,⟨nd,rfl⟩⟩;refine ⟨_,rfl,?_⟩))
 go_ret
 exact ⟨by first|rfl | (simp;done)|(simp [*];done),by repeat (first|exact Drawn0.refl _ | apply Drawn0.step)⟩

/-! ### impl_isCard: function 35 -/
def impl_isCard.f (k : Nat) (a0_0 : ByteArray) (a0_1 : Int) (a0_2 : Int) : Option (Bool) := (impl_IsGloss.f k a0_0).bind fun t102 => (if t102 = true then ((impl_within.f a0_1 0 5).bind fun t103 => (if t103 = true then ((impl_isFrame.f a0_2).bind fun t104 => (some t104)) else (some false))) else (some false))
theorem impl_isCard.mono : ∀ a0 a1 a2 k,LeO (impl_isCard.f k a0 a1 a2) (impl_isCard.f (k + 1) a0 a1 a2) := by
 intro a0 a1 a2 k
 unfold impl_isCard.f
 repeat' first
   | (with_reducible exact impl_IsGloss.mono _ _)
   | (with_reducible exact LeO.refl _)
   | (with_reducible exact LeO.none _)
   | (with_reducible refine LeO.ite ?_ ?_)
   | (with_reducible refine LeO.bind ?_ (fun _ => ?_))
set_option maxHeartbeats 3000000 in
set_option maxRecDepth 100000 in
theorem impl_isCard.calls (k : Nat) (a0_0 : ByteArray) (a0_1 : Int) (a0_2 : Int) (r : Bool) (w : World) (h : impl_isCard.f k a0_0 a0_1 a0_2 = some r) :
  Calls Try.prog 35 #[.agg #[.string a0_0,.int .i64 a0_1,.int .i64 a0_2]] w fun e w' => e = .returned (.bool r) ∧ Below w.heap.size w w' := by
 have hu24 := Try.underlying24
 have HB := Aside0.mk (Below.refl w.heap.size w)
 have H : ((impl_IsGloss.f k a0_0).bind fun t102 => (if t102 = true then ((impl_within.f a0_1 0 5).bind fun t103 => (if t103 = true then ((impl_isFrame.f a0_2).bind fun t104 => (some t104)) else (some false))) else (some false))) = some r := h
 clear h
 replace H := Option.bind_eq_some_iff.mp H
 obtain ⟨t102,A20,H⟩ := H
 try dsimp only at H
 have A2 := Aside0.mk A20
 clear A20
 by_cases c3 : t102 = true
 ·subst c3
  rw [if_pos rfl] at H
  replace H := Option.bind_eq_some_iff.mp H
  obtain ⟨t103,A40,H⟩ := H
  try dsimp only at H
  have A4 := Aside0.mk A40
  clear A40
  by_cases c5 : t103 = true
  ·subst c5
   rw [if_pos rfl] at H
   replace H := Option.bind_eq_some_iff.mp H
   obtain ⟨t104,A60,H⟩ := H
   try dsimp only at H
   have A6 := Aside0.mk A60
   clear A60
   obtain rfl := Option.some.inj H
   go_enter Try.func35,Try.ntmps35
   go_wp2_with (first|((with_reducible refine gate_dst (N := 1) rfl ?_);refine box_event ?hg (N := 1) ?hd (cs := #[.string a0_0,.int .i64 a0_1,.int .i64 a0_2]) (t := 24) ?hr ?_;(case hd => rfl);(case hg => rfl);(case hr => first|(go_simp;done)|(go_simp;rfl));intro gb101 hg w7 hbox hb;have n0_ := Aside0.mk (below_step (by repeat (first|exact HB.out | apply zbA | apply zbB | apply zbC)) hb);have n1_ := Aside0.mk (hbox);have n2_ := Aside0.mk ((by rw [hg];exact (below_size (by repeat (first|exact HB.out | apply zbA | apply zbB | apply zbC))) : w.heap.size ≤ gb101));have n3_ := Aside0.mk ((by rw [hg];exact (below_size (by repeat (first|exact HB.out | apply zbA | apply zbB | apply zbC))) : w.heap.size ≤ gb101));clear HB;have HB := n0_;have BK101 := n1_;have GW101 := n2_;have GE101 := n3_;clear n0_ n1_ n2_ n3_;clear hb hbox hg;have hcz8_0 : w7.cell? ⟨gb101,0,none⟩ = some (.string a0_0) := (blk_cell BK101.out 0).trans rfl;have hcz8_1 : w7.cell? ⟨gb101,1,none⟩ = some (.int .i64 a0_1) := (blk_cell BK101.out 1).trans rfl;have hcz8_2 : w7.cell? ⟨gb101,2,none⟩ = some (.int .i64 a0_2) := (blk_cell BK101.out 2).trans rfl;have hfz8_0 := blk_frozen BK101.out 0;have hfz8_1 := blk_frozen BK101.out 1;have hfz8_2 := blk_frozen BK101.out 2)|((with_reducible refine gate_callee (f := 47) rfl ?_);refine goesM_ (some 5) Try.func47 #[.string a0_0] ?_;(with_reducible refine (impl_IsGloss.calls k a0_0 true _ A2.out).mono ?_);rintro e w' ⟨rfl,⟨nd,rfl⟩⟩;refine ⟨_,rfl,?_⟩)|(go_at_call 56;(with_reducible refine (impl_within.calls a0_1 0 5 true _ A4.out).mono ?_);rintro e w' ⟨rfl,⟨nd,rfl⟩⟩)|(go_at_call 36;(with_reducible refine (impl_isFrame.calls a0_2 t104 _ A6.out).mono ?_);rintro e w' ⟨rfl,⟨nd,rfl⟩⟩))
   go_ret
   exact ⟨by first|rfl | (simp [*,errW_none,errW_some] <;> rfl),by repeat (first|(with_reducible first|exact HB.out | apply zbA | apply zbB | apply zbC | refine below_set ?_ GE101.out) | exact HB.out)⟩
  ·replace c5 := Bool.eq_false_iff.mpr c5
   subst c5
   rw [if_neg (show ¬ (false = true) by decide)] at H
   obtain rfl := Option.some.inj H
   go_enter Try.func35,Try.ntmps35
   go_wp2_with (first|((with_reducible refine gate_dst (N := 1) rfl ?_);refine box_event ?hg (N := 1) ?hd (cs := #[.string a0_0,.int .i64 a0_1,.int .i64 a0_2]) (t := 24) ?hr ?_;(case hd => rfl);(case hg => rfl);(case hr => first|(go_simp;done)|(go_simp;rfl));intro gb101 hg w9 hbox hb;have n0_ := Aside0.mk (below_step (by repeat (first|exact HB.out | apply zbA | apply zbB | apply zbC)) hb);have n1_ := Aside0.mk (hbox);have n2_ := Aside0.mk ((by rw [hg];exact (below_size (by repeat (first|exact HB.out | apply zbA | apply zbB | apply zbC))) : w.heap.size ≤ gb101));have n3_ := Aside0.mk ((by rw [hg];exact (below_size (by repeat (first|exact HB.out | apply zbA | apply zbB | apply zbC))) : w.heap.size ≤ gb101));clear HB;have HB := n0_;have BK101 := n1_;have GW101 := n2_;have GE101 := n3_;clear n0_ n1_ n2_ n3_;clear hb hbox hg;have hcz10_0 : w9.cell? ⟨gb101,0,none⟩ = some (.string a0_0) := (blk_cell BK101.out 0).trans rfl;have hcz10_1 : w9.cell? ⟨gb101,1,none⟩ = some (.int .i64 a0_1) := (blk_cell BK101.out 1).trans rfl;have hcz10_2 : w9.cell? ⟨gb101,2,none⟩ = some (.int .i64 a0_2) := (blk_cell BK101.out 2).trans rfl;have hfz10_0 := blk_frozen BK101.out 0;have hfz10_1 := blk_frozen BK101.out 1;have hfz10_2 := blk_frozen BK101.out 2)|((with_reducible refine gate_callee (f := 47) rfl ?_);refine goesM_ (some 5) Try.func47 #[.string a0_0] ?_;(with_reducible refine (impl_IsGloss.calls k a0_0 true _ A2.out).mono ?_);rintro e w' ⟨rfl,⟨nd,rfl⟩⟩;refine ⟨_,rfl,?_⟩)|(go_at_call 56;(with_reducible refine (impl_within.calls a0_1 0 5 false _ A4.out).mono ?_);rintro e w' ⟨rfl,⟨nd,rfl⟩⟩))
   go_ret
   exact ⟨by first|rfl | (simp [*,errW_none,errW_some] <;> rfl),by repeat (first|(with_reducible first|exact HB.out | apply zbA | apply zbB | apply zbC | refine below_set ?_ GE101.out) | exact HB.out)⟩
 ·replace c3 := Bool.eq_false_iff.mpr c3
  subst c3
  rw [if_neg (show ¬ (false = true) by decide)] at H
  obtain rfl := Option.some.inj H
  go_enter Try.func35,Try.ntmps35
  go_wp2_with (first|((with_reducible refine gate_dst (N := 1) rfl ?_);refine box_event ?hg (N := 1) ?hd (cs := #[.string a0_0,.int .i64 a0_1,.int .i64 a0_2]) (t := 24) ?hr ?_;(case hd => rfl);(case hg => rfl);(case hr => first|(go_simp;done)|(go_simp;rfl));intro gb101 hg w11 hbox hb;have n0_ := Aside0.mk (below_step (by repeat (first|exact HB.out | apply zbA | apply zbB | apply zbC)) hb);have n1_ := Aside0.mk (hbox);have n2_ := Aside0.mk ((by rw [hg];exact (below_size (by repeat (first|exact HB.out | apply zbA | apply zbB | apply zbC))) : w.heap.size ≤ gb101));have n3_ := Aside0.mk ((by rw [hg];exact (below_size (by repeat (first|exact HB.out | apply zbA | apply zbB | apply zbC))) : w.heap.size ≤ gb101));clear HB;have HB := n0_;have BK101 := n1_;have GW101 := n2_;have GE101 := n3_;clear n0_ n1_ n2_ n3_;clear hb hbox hg;have hcz12_0 : w11.cell? ⟨gb101,0,none⟩ = some (.string a0_0) := (blk_cell BK101.out 0).trans rfl;have hcz12_1 : w11.cell? ⟨gb101,1,none⟩ = some (.int .i64 a0_1) := (blk_cell BK101.out 1).trans rfl;have hcz12_2 : w11.cell? ⟨gb101,2,none⟩ = some (.int .i64 a0_2) := (blk_cell BK101.out 2).trans rfl;have hfz12_0 := blk_frozen BK101.out 0;have hfz12_1 := blk_frozen BK101.out 1;have hfz12_2 := blk_frozen BK101.out 2)|((with_reducible refine gate_callee (f := 47) rfl ?_);refine goesM_ (some 5) Try.func47 #[.string a0_0] ?_;(with_reducible refine (impl_IsGloss.calls k a0_0 false _ A2.out).mono ?_);rintro e w' ⟨rfl,⟨nd,rfl⟩⟩;refine ⟨_,rfl,?_⟩))
  go_ret
  exact ⟨by first|rfl | (simp [*,errW_none,errW_some] <;> rfl),by repeat (first|(with_reducible first|exact HB.out | apply zbA | apply zbB | apply zbC | refine below_set ?_ GE101.out) | exact HB.out)⟩

/-! ### impl_daysFor: function 51 -/
def impl_daysFor.f (a0 : Int) : Option (Int) := if 0 ≤ a0 then (some (shl .i64 1 a0)) else (none)
set_option maxHeartbeats 3000000 in
set_option maxRecDepth 100000 in
theorem impl_daysFor.calls (a0 : Int) (r : Int) (w : World) (h : impl_daysFor.f a0 = some r) :
  Calls Try.prog 51 #[.int .i64 a0] w fun e w' => e = .returned (.int .i64 r) ∧ Drawn0 w w' := by
 have H : (if 0 ≤ a0 then (some (shl .i64 1 a0)) else (none)) = some r := h
 clear h
 by_cases c2 : 0 ≤ a0
 ·rw [if_pos c2] at H
  have c2b0 := eq_true c2
  have c2b1 : decide (0 ≤ a0) = true := decide_eq_true c2
  clear c2
  obtain ⟨ji3,hji3⟩ : ∃ j_ : Int,(shl .i64 1 a0) = j_ := ⟨_,rfl⟩
  replace H : (some ji3) = some r := by first|(rw [hji3] at H;exact H)|(simp only [hji3] at H ⊢;exact H)
  have hji3_ : (IntKind.i64.wrap (1 * 2 ^ min a0.toNat 64)) = ji3 := hji3
  have hji3z : a0 ≤ 64 → (IntKind.i64.wrap (1 * 2 ^ a0.toNat)) = ji3 := shl_small hji3
  have hji3u : (IntKind.i64.wrap (2 ^ min a0.toNat 64)) = ji3 := by have h_ := hji3_;rw [Int.one_mul] at h_;exact h_
  have hji3v : a0 ≤ 64 → (IntKind.i64.wrap (2 ^ a0.toNat)) = ji3 := fun hle_ => by have h_ := hji3z hle_;rw [Int.one_mul] at h_;exact h_
  have hji3y : (wrap64 (1 * 2 ^ min a0.toNat 64)) = ji3 := (i64_w _).symm.trans hji3_
  have hji3x : a0 ≤ 64 → (wrap64 (1 * 2 ^ a0.toNat)) = ji3 := fun h_ => (i64_w _).symm.trans (hji3z h_)
  obtain rfl := Option.some.inj H
  go_enter Try.func51,Try.ntmps51
  go_wp2
  go_ret
  exact ⟨by first|rfl | (simp;done)|(simp only [← hji3] <;> (first|rfl | simp))|(simp [*];done),by repeat (first|exact Drawn0.refl _ | apply Drawn0.step)⟩
 ·rw [if_neg c2] at H
  exact absurd H (by simp)

end Go.Proofs.Ytkobnljfoedmnaa.Q
