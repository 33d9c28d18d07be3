-- Written for the seat YtnafjfdalapegaaGreat by a program of this session (wip/tool/gx.py) out of the translation. Lean checks it.
import Derived.Test.YtnafjfdalapegaaGreatQ0
import Derived.Test.YtnafjfdalapegaaGreatGCall
import Derived.Test.YtnafjfdalapegaaGreatQBImplHasNeeds1
import Derived.Test.YtnafjfdalapegaaGreatQBImplIsTaught
import Derived.Test.YtnafjfdalapegaaGreatQBSlicesGrowInt
import Derived.Test.YtnafjfdalapegaaGreatQBSpecExTaught
import Derived.StillTailTactics
import Derived.Test.YtnafjfdalapegaaGreatWKept
import Derived.Test.YtnafjfdalapegaaGreatWRepsOne
import Derived.Test.YtnafjfdalapegaaGreatGSrtI
import Derived.Test.YtnafjfdalapegaaGreatGDel
import Derived.Ground.SlgfProg
import Derived.Ground.SlsfProg
import Derived.Test.YtnafjfdalapegaaGreatGSrtI
import Derived.Test.YtnafjfdalapegaaGreatWTab
import Derived.Test.YtnafjfdalapegaaGreatWApart
import Derived.Test.YtnafjfdalapegaaGreatWFoot
import Derived.Test.YtnafjfdalapegaaGreatWKept
import Derived.Test.YtnafjfdalapegaaGreatWShare
import Derived.Test.YtnafjfdalapegaaGreatWN
import Derived.Test.YtnafjfdalapegaaGreatWRepsOne
namespace Go.Proofs.YtnafjfdalapegaaGreat.Q
open Go.RowKit Go.Proofs.YtnafjfdalapegaaGreatW.PrintWords Go.Proofs.YtnafjfdalapegaaGreatW.PrintLast Go.Proofs.YtnafjfdalapegaaGreatW.PrintMore Go.Proofs.YtnafjfdalapegaaGreatW.GCall
attribute [local go_sem] max2_int min2_int max_two min_two max_three min_three max_four min_four   -- for this text's walks alone
set_option linter.unusedVariables false
set_option linter.unusedSimpArgs false

/-! ### impl_makeQuestion: function 39 -/
def impl_makeQuestion.dst (a b : Int) : Int := mx (wrap64 (a - b)) (wrap64 (b - a))
def impl_makeQuestion.us (l : List S62) (i : Int) : Int := (rd_T62 l i).f2
def impl_makeQuestion.cf (l : List S62) (a i k : Int) : Int := if wrap64 (impl_makeQuestion.dst (impl_makeQuestion.us l i) (impl_makeQuestion.us l a) - impl_makeQuestion.dst (impl_makeQuestion.us l k) (impl_makeQuestion.us l a)) = 0 then wrap64 (i - k) else wrap64 (impl_makeQuestion.dst (impl_makeQuestion.us l i) (impl_makeQuestion.us l a) - impl_makeQuestion.dst (impl_makeQuestion.us l k) (impl_makeQuestion.us l a))
/-- Where the comparator is an order: uses as AreWords lets them be. -/
def impl_makeQuestion.ok (l : List S62) (a : Int) : Prop := l.length ≤ 1048576 ∧ (∀ x : Int, 0 ≤ x → x < (l.length : Int) → 0 ≤ impl_makeQuestion.us l x ∧ impl_makeQuestion.us l x ≤ 99999) ∧ 0 ≤ a ∧ a < (l.length : Int)
def impl_makeQuestion.okB (l : List S62) (a : Int) (o : List Int) : Bool := decide (l.length ≤ 1048576) && ((List.range l.length).all (fun j => decide (0 ≤ impl_makeQuestion.us l (j : Int) ∧ impl_makeQuestion.us l (j : Int) ≤ 99999)) && (decide (0 ≤ a ∧ a < (l.length : Int)) && (o.all (fun x => decide (0 ≤ x ∧ x < (l.length : Int))) && decide (o.length < 4611686018427387904))))
theorem impl_makeQuestion.ok_of {l : List S62} {a : Int} {o : List Int} (h : impl_makeQuestion.okB l a o = true) : impl_makeQuestion.ok l a ∧ (∀ x, x ∈ o → 0 ≤ x ∧ x < (l.length : Int)) ∧ o.length < 4611686018427387904 := by
 unfold impl_makeQuestion.okB at h
 simp only [Bool.and_eq_true, List.all_eq_true, decide_eq_true_eq] at h
 obtain ⟨h1, h2, h3, h4, h5⟩ := h
 refine ⟨⟨h1, fun x hx0 hx1 => ?_, h3⟩, h4, h5⟩
 have := h2 x.toNat (List.mem_range.2 (by omega))
 rwa [show ((x.toNat : Nat) : Int) = x by omega] at this
theorem impl_makeQuestion.cf_eq {l : List S62} {a : Int} (h : impl_makeQuestion.ok l a) {i k : Int} (hi : 0 ≤ i ∧ i < (l.length : Int)) (hk : 0 ≤ k ∧ k < (l.length : Int)) : ∃ di dk : Int, (di = impl_makeQuestion.dst (impl_makeQuestion.us l i) (impl_makeQuestion.us l a)) ∧ (dk = impl_makeQuestion.dst (impl_makeQuestion.us l k) (impl_makeQuestion.us l a)) ∧ impl_makeQuestion.cf l a i k = if di - dk = 0 then i - k else di - dk := by
 obtain ⟨hl, hu, ha⟩ := h
 have h1 := hu i hi.1 hi.2
 have h2 := hu k hk.1 hk.2
 have h3 := hu a ha.1 ha.2
 refine ⟨_, _, rfl, rfl, ?_⟩
 unfold impl_makeQuestion.cf
 generalize impl_makeQuestion.us l i = ui at h1 ⊢
 generalize impl_makeQuestion.us l k = uk at h2 ⊢
 generalize impl_makeQuestion.us l a = ua at h3 ⊢
 have hd : ∀ u : Int, 0 ≤ u ∧ u ≤ 99999 → 0 ≤ impl_makeQuestion.dst u ua ∧ impl_makeQuestion.dst u ua ≤ 99999 := by
  intro u h4
  have e1 : wrap64 (u - ua) = u - ua := by unfold wrap64; omega
  have e2 : wrap64 (ua - u) = ua - u := by unfold wrap64; omega
  unfold impl_makeQuestion.dst mx
  rw [e1, e2]
  split <;> omega
 have g1 := hd ui h1
 have g2 := hd uk h2
 generalize impl_makeQuestion.dst ui ua = di at g1 ⊢
 generalize impl_makeQuestion.dst uk ua = dk at g2 ⊢
 have e1 : wrap64 (di - dk) = di - dk := by unfold wrap64; omega
 have e2 : wrap64 (i - k) = i - k := by unfold wrap64; omega
 rw [e1, e2]
theorem impl_makeQuestion.cf_neg {l : List S62} {a : Int} (h : impl_makeQuestion.ok l a) {i k : Int} (hi : 0 ≤ i ∧ i < (l.length : Int)) (hk : 0 ≤ k ∧ k < (l.length : Int)) : impl_makeQuestion.cf l a i k < 0 ↔ impl_makeQuestion.dst (impl_makeQuestion.us l i) (impl_makeQuestion.us l a) < impl_makeQuestion.dst (impl_makeQuestion.us l k) (impl_makeQuestion.us l a) ∨ impl_makeQuestion.dst (impl_makeQuestion.us l i) (impl_makeQuestion.us l a) = impl_makeQuestion.dst (impl_makeQuestion.us l k) (impl_makeQuestion.us l a) ∧ i < k := by
 obtain ⟨di, dk, e1, e2, e3⟩ := impl_makeQuestion.cf_eq h hi hk
 rw [e3, ← e1, ← e2]
 split <;> omega
def impl_makeQuestion.rest (l : List S62) (a : Int) (o : List Int) : List Int := (Go.Proofs.YtnafjfdalapegaaGreatW.GSrtI.srtF (impl_makeQuestion.cf l a) o).filter fun x => !(decide (x = a))
def impl_makeQuestion.f (k : Nat) (l : List S62) (ls : List (List Int)) (a n : Int) : Option (Int × List Int × Bool) :=
 (slices_Concat_int.f k ls).bind fun o => if impl_makeQuestion.okB l a o = true then
  ((impl_isTaught.f k ls a).bind fun b => if b = true then
   (if ((impl_makeQuestion.rest l a o).length : Int) < wrap64 (n - 1) then some (0, ([] : List Int), false)
   else if 0 ≤ wrap64 (n - 1) then
    ((slices_Clone_int.f ((impl_makeQuestion.rest l a o).take (wrap64 (n - 1)).toNat)).bind fun c => if c.length < 17592186044416 then
     ((impl_distinct_int.f (c ++ [a])).bind fun q => some (a, q, true)) else none)
   else none)
  else some (0, ([] : List Int), false))
 else none
theorem impl_makeQuestion.mono : ∀ a0 a1 a2 a3 k, LeO (impl_makeQuestion.f k a0 a1 a2 a3) (impl_makeQuestion.f (k + 1) a0 a1 a2 a3) := by
 intro a0 a1 a2 a3 k
 unfold impl_makeQuestion.f
 exact LeO.bind (slices_Concat_int.mono _ _) (fun _ => LeO.ite (LeO.bind (impl_isTaught.mono _ _ _) (fun _ => LeO.refl _)) (LeO.refl _))
set_option maxHeartbeats 1000000
end Go.Proofs.YtnafjfdalapegaaGreat.Q
namespace Go.Proofs
open Go.Shelf
shelf_lay_g SlLaysF.n6 Slsf 6 at Tryz 62 as Tryz.laysSI62
shelf_lay_g SlLaysH.n10 Slgf 10 at Tryz 66 as Tryz.laysDI66
end Go.Proofs
namespace Go.Proofs.YtnafjfdalapegaaGreat.Q
open Go.RowKit Go.Lib Go.Sort Go.Proofs.YtnafjfdalapegaaGreatW.PrintWords Go.Proofs.YtnafjfdalapegaaGreatW.PrintLast Go.Proofs.YtnafjfdalapegaaGreatW.PrintMore Go.Proofs.YtnafjfdalapegaaGreatW Go.Proofs.YtnafjfdalapegaaGreat.Q Go.Proofs.YtnafjfdalapegaaGreatW.GCall
set_option linter.unusedVariables false
set_option linter.unusedSimpArgs false
theorem impl_makeQuestion.dist_calls (a b : Int) (w : World) : Calls Tryz.prog 65 #[.int .i64 a, .int .i64 b] w fun e w' => e = .returned (.int .i64 (impl_makeQuestion.dst a b)) ∧ w' = w := by
 obtain ⟨m, hm⟩ : ∃ m : Int, impl_makeQuestion.dst a b = m := ⟨_, rfl⟩
 have hm_ : (if (wrap64 (a - b)) < (wrap64 (b - a)) then (wrap64 (b - a)) else (wrap64 (a - b))) = m := hm
 rw [hm]
 go_enter Tryz.func65, Tryz.ntmps65
 go_wp2
 go_ret
 exact ⟨by first | rfl | (simp only [← hm_]; first | rfl | (simp; done) | (simp; rw [Int.max_def]; split <;> split <;> omega)), rfl⟩
theorem impl_makeQuestion.or_eq (a b : Int) : cmp_Or_int.f 4 [a, b] = some (if a = 0 then b else a) := by
 have e1 : wrap64 1 = 1 := by unfold wrap64; omega
 have e2 : wrap64 2 = 2 := by unfold wrap64; omega
 unfold cmp_Or_int.f
 by_cases h1 : a = 0
 ·by_cases h2 : b = 0
  ·simp [cmp_Or_int.l0, Go.Proofs.YtnafjfdalapegaaGreatW.PrintWords.rd, h1, h2, e1, e2]
  ·simp [cmp_Or_int.l0, Go.Proofs.YtnafjfdalapegaaGreatW.PrintWords.rd, h1, h2, e1, e2]
 ·simp [cmp_Or_int.l0, Go.Proofs.YtnafjfdalapegaaGreatW.PrintWords.rd, h1]
theorem impl_makeQuestion.two_C (w : World) (a b : Int) (t : Nat) : Kd.C (Kd.int .i64) (w.alloc (.cells #[.int .i64 a, .int .i64 b] t)) (some ⟨w.heap.size, 0, none⟩) ([a, b] : List Int).length [a, b] := by
 refine ⟨rfl, by simp, fun _ => ⟨_, rfl, fun j p hj => ?_⟩⟩
 rcases j with _ | _ | j
 ·obtain rfl : a = p := by simpa using hj
  refine ⟨[.int .i64 a], rfl, rfl, fun i u hu => ?_⟩
  rcases i with _ | i
  ·obtain rfl : Value.int .i64 a = u := by simpa using hu
   change (w.alloc _).cell? ⟨w.heap.size, 0, none⟩ = _
   simp
  ·simp at hu
 ·obtain rfl : b = p := by simpa using hj
  refine ⟨[.int .i64 b], rfl, rfl, fun i u hu => ?_⟩
  rcases i with _ | i
  ·obtain rfl : Value.int .i64 b = u := by simpa using hu
   change (w.alloc _).cell? ⟨w.heap.size, 1, none⟩ = _
   simp
  ·simp at hu
 ·simp at hj
set_option maxHeartbeats 4000000 in
set_option maxRecDepth 100000 in
theorem impl_makeQuestion.cmp (A0 : Option Addr) (c0 : Nat) (l0 : List S62) (a i k : Int) (gb ga : Nat) (W : World) (hr0 : Kd.C k62 W A0 l0.length l0) (ha : 0 ≤ a ∧ a < (l0.length : Int)) (hi : 0 ≤ i ∧ i < (l0.length : Int)) (hk : 0 ≤ k ∧ k < (l0.length : Int)) (hbl : W.cell? ⟨gb, 0, none⟩ = some (.slice A0 l0.length c0)) (hba : W.cell? ⟨ga, 0, none⟩ = some (.int .i64 a)) :
  Calls Tryz.prog 63 #[.int .i64 i, .int .i64 k, .pointer (some ⟨gb, 0, none⟩), .pointer (some ⟨ga, 0, none⟩)] W fun e w' => e = .returned (.int .i64 (impl_makeQuestion.cf l0 a i k)) ∧ ∃ q os', w' = grow (W.drewN q) os' := by
 have hu := Tryz.underlying62
 obtain ⟨ad1, A1, c1, e1, hi0, hi1, hi2, _, _⟩ := at_T62 hr0 i hi.1 hi.2
 obtain ⟨ad2, A2, c2, e2, ha0, ha1, ha2, _, _⟩ := at_T62 hr0 a ha.1 ha.2
 obtain ⟨ad3, A3, c3, e3, hk0, hk1, hk2, _, _⟩ := at_T62 hr0 k hk.1 hk.2
 cases e1
 cases e2
 cases e3
 have p1 := eq_true hi.1
 have p2 := eq_true hi.2
 have p3 := eq_true ha.1
 have p4 := eq_true ha.2
 have p5 := eq_true hk.1
 have p6 := eq_true hk.2
 unfold impl_makeQuestion.cf impl_makeQuestion.us
 generalize (rd_T62 l0 i).f2 = yi at hi2 ⊢
 generalize (rd_T62 l0 a).f2 = ya at ha2 ⊢
 generalize (rd_T62 l0 k).f2 = yk at hk2 ⊢
 obtain ⟨m1, hm1⟩ : ∃ m : Int, wrap64 (impl_makeQuestion.dst yi ya - impl_makeQuestion.dst yk ya) = m := ⟨_, rfl⟩
 obtain ⟨m2, hm2⟩ : ∃ m : Int, wrap64 (i - k) = m := ⟨_, rfl⟩
 have hm1w : IntKind.i64.wrap (impl_makeQuestion.dst yi ya - impl_makeQuestion.dst yk ya) = m1 := (i64_w _).trans hm1
 have hm2w : IntKind.i64.wrap (i - k) = m2 := (i64_w _).trans hm2
 rw [hm1, hm2]
 have hq := impl_makeQuestion.or_eq m1 m2
 generalize (if m1 = 0 then m2 else m1) = m3 at hq ⊢
 have HQ := Aside0.mk hq
 clear hq
 clear hr0 hi hk ha hi0 hi1 ha0 ha1 hk0 hk1
 have HOR := fun W' => Aside0.mk (impl_makeQuestion.two_C W' m1 m2 3)
 go_enter Tryz.func63, Tryz.ntmps63
 go_wp2
 go_still_tail 26, (by kernel_rfl)
 still_call (impl_makeQuestion.dist_calls yi ya _)
 repeat still_step
 still_call (impl_makeQuestion.dist_calls yk ya _)
 repeat still_step
 refine wpStill_nil ?_
 change wpList _ _ _ _ _ W.drew
 clear hi2 ha2 hk2 hbl hba
 obtain ⟨w2, hw2⟩ : ∃ w2 : World, W.drew = w2 := ⟨_, rfl⟩
 rw [hw2]
 replace hw2 := Aside0.mk hw2
 go_wp2_with (go_at_call 64; refine (cmp_Or_int.calls 4 _ _ [m1, m2] _ _ (HOR w2).out (Nat.le_refl _) HQ.out).mono ?_; rintro e w' ⟨rfl, nd_, rfl⟩)
 go_ret
 obtain ⟨rfl⟩ := hw2
 have e1 : W.drewN (nd_ + 1) = (W.drew).drewN nd_ := by
  have e2 : W.drawn + (nd_ + 1) = W.drawn + 1 + nd_ := by omega
  simp only [World.drewN, World.drew, e2]
 exact ⟨rfl, nd_ + 1, #[.cells #[.int .i64 m1, .int .i64 m2] 3 (0, 0)], by rw [e1]; rfl⟩
theorem impl_makeQuestion.swo {l : List S62} {a : Int} (h : impl_makeQuestion.ok l a) : SWO (ltOf fun (x y : {x : Int // 0 ≤ x ∧ x < (l.length : Int)}) => impl_makeQuestion.cf l a x.1 y.1) := by
 have e : ∀ x y : {x : Int // 0 ≤ x ∧ x < (l.length : Int)}, ltOf (fun (x y : {x : Int // 0 ≤ x ∧ x < (l.length : Int)}) => impl_makeQuestion.cf l a x.1 y.1) x y = decide (impl_makeQuestion.dst (impl_makeQuestion.us l x.1) (impl_makeQuestion.us l a) < impl_makeQuestion.dst (impl_makeQuestion.us l y.1) (impl_makeQuestion.us l a) ∨ impl_makeQuestion.dst (impl_makeQuestion.us l x.1) (impl_makeQuestion.us l a) = impl_makeQuestion.dst (impl_makeQuestion.us l y.1) (impl_makeQuestion.us l a) ∧ x.1 < y.1) := fun x y => by
  unfold ltOf
  rw [decide_eq_decide]
  exact impl_makeQuestion.cf_neg h x.2 y.2
 refine ⟨fun x => ?_, fun x y z h1 h2 => ?_, fun x y z h1 h2 => ?_⟩
 ·rw [e]; exact decide_eq_false (by omega)
 ·rw [e] at *; exact decide_eq_true (by have := of_decide_eq_true h1; have := of_decide_eq_true h2; omega)
 ·rw [e] at *; exact decide_eq_false (by have := of_decide_eq_false h1; have := of_decide_eq_false h2; omega)
theorem impl_makeQuestion.tot {l : List S62} {a : Int} (h : impl_makeQuestion.ok l a) (x y : Int) (hx : 0 ≤ x ∧ x < (l.length : Int)) (hy : 0 ≤ y ∧ y < (l.length : Int)) (h1 : ¬ impl_makeQuestion.cf l a x y < 0) (h2 : ¬ impl_makeQuestion.cf l a y x < 0) : x = y := by
 rw [impl_makeQuestion.cf_neg h hx hy] at h1
 rw [impl_makeQuestion.cf_neg h hy hx] at h2
 omega
set_option maxHeartbeats 1000000 in
theorem impl_makeQuestion.lit2 (a x : Int) (ga : Nat) (W : World) (hba : W.cell? ⟨ga, 0, none⟩ = some (.int .i64 a)) : Calls Tryz.prog 67 #[.int .i64 x, .pointer (some ⟨ga, 0, none⟩)] W fun e w' => e = .returned (.bool (decide (x = a))) ∧ Below W.heap.size W w' := by
 have hb : (x == a) = decide (x = a) := rfl
 go_enter Tryz.func67, Tryz.ntmps67
 go_wp2
 go_ret
 exact ⟨by first | rfl | (simp; done) | (rw [hb]), Below.refl _ _⟩
theorem impl_makeQuestion.sort (A0 : Option Addr) (c0 : Nat) (l : List S62) (a : Int) (g4 g6 base : Nat) (v : Value) (o : List Int) (w0 w : World) (hok : impl_makeQuestion.ok l a) (ho : ∀ x, x ∈ o → 0 ≤ x ∧ x < (l.length : Int)) (hlen : o.length < 4611686018427387904) (hr0 : Kd.C k62 w0 A0 l.length l) (hB : Below w0.heap.size w0 w) (hle : w0.heap.size ≤ base) (hR : Kd.R (Kd.int .i64) 3 w base (fun _ => True) v o)
  (hb4 : w.heap[g4]? = some (.cells #[.slice A0 l.length c0] 31 (0, 0))) (hb6 : w.heap[g6]? = some (.cells #[.int .i64 a] 3 (0, 0))) (h4 : g4 < base) (h6 : g6 < base) :
  Calls Tryz.prog 62 #[v, .func (.func 63) #[] #[.pointer (some ⟨g4, 0, none⟩), .pointer (some ⟨g6, 0, none⟩)]] w fun e w' => e = .returned (.tuple #[]) ∧ Kd.R (Kd.int .i64) 3 w' base (fun _ => True) v (GSrtI.srtF (impl_makeQuestion.cf l a) o) ∧ w.grownBy w' v.ownBlock := by
 letI : Inhabited {x : Int // 0 ≤ x ∧ x < (l.length : Int)} := ⟨⟨a, hok.2.2⟩⟩
 have eg : ∀ args w, (callFunc 63 args).run Tryz.prog w = .ok (.enter 63 args) w := enters_of Tryz.func63 (by kernel_rfl) rfl
 have hcon := GSrtI.sort_int Tryz.laysSI62 (fun x => 0 ≤ x ∧ x < (l.length : Int)) (impl_makeQuestion.cf l a) (impl_makeQuestion.swo hok) (fun x y hx hy => impl_makeQuestion.tot hok x y hx hy) 63 #[.pointer (some ⟨g4, 0, none⟩), .pointer (some ⟨g6, 0, none⟩)] eg 3 base (fun _ => True) v o w hR ho hlen (fun W x y hx hy hg => by
  have hbel : Below w0.heap.size w0 W := hB.grown hg hB.size (fun k hk => Nat.le_trans hle (Kd.R_base hR k hk))
  have n4 : some g4 ≠ v.ownBlock := fun e => by have := Kd.R_base hR g4 e.symm; omega
  have n6 : some g6 ≠ v.ownBlock := fun e => by have := Kd.R_base hR g6 e.symm; omega
  exact impl_makeQuestion.cmp A0 c0 l a x y g4 g6 W (Kd.C_below hr0 hbel) hok.2.2 hx hy ((blk_cell (blk_grown hb4 hg n4) 0).trans rfl) ((blk_cell (blk_grown hb6 hg n6) 0).trans rfl))
 exact hcon
theorem impl_makeQuestion.del (a : Int) (g6 base : Nat) (v : Value) (o : List Int) (w : World) (hR : Kd.R (Kd.int .i64) 3 w base (fun _ => True) v o) (hb6 : w.heap[g6]? = some (.cells #[.int .i64 a] 3 (0, 0))) (h6 : g6 < base) :
  Calls Tryz.prog 66 #[v, .func (.func 67) #[] #[.pointer (some ⟨g6, 0, none⟩)]] w fun e w' => ∃ v', e = .returned v' ∧ Kd.R (Kd.int .i64) 3 w' base (fun _ => True) v' (o.filter fun x => !(decide (x = a))) ∧ v'.ownBlock = v.ownBlock ∧ w.grownBy w' v.ownBlock := by
 have eg : ∀ args w, (callFunc 67 args).run Tryz.prog w = .ok (.enter 67 args) w := enters_of Tryz.func67 (by kernel_rfl) rfl
 have hcon := GDel.del_one Tryz.laysDI66 (Kd.int .i64) rfl (.int .i64 0) Tryz.zeroValue3 rfl (fun u hu => by simp [Value.cells] at hu; subst hu; rfl) (fun x => some (decide (x = a))) (fun x => decide (x = a)) 67 #[.pointer (some ⟨g6, 0, none⟩)] eg 3 base (fun _ => True) v o w hR (fun _ _ => rfl) (fun W x u b hg hx hK hb => by
  obtain rfl := Option.some.inj hb
  have n6 : some g6 ≠ v.ownBlock := fun e => by have := Kd.R_base hR g6 e.symm; omega
  obtain rfl : (Value.int .i64 x) = u := by have e_ : [(Value.int .i64 x : Value)] = [u] := hK.symm ▸ rfl; injection e_
  exact impl_makeQuestion.lit2 a x g6 W ((blk_cell (blk_grown hb6 hg n6) 0).trans rfl))
 exact hcon
-- MAIN
def impl_makeQuestion.T6 : Bool × List (List Nat × List Nat) := (true, [([], []), ([], []), ([], []), ([2], [2]), ([1, 3], [1, 3]), ([4], [4]), ([], []), ([6], [6]), ([5, 7, 5], [5, 7]), ([8, 8], [8]), ([0, 9], [0, 9]), ([10, 9, 0, 1, 2, 3, 4, 5, 6, 7, 8, 9, 10], [10]), ([11, 0, 1, 2, 3, 4, 5, 6, 7, 8, 9, 10, 11], [])])
def impl_makeQuestion.B6 : List Nat := [0, 0, 0, 4, 14, 30, 0, 64, 254, 510, 1023, 2047, 4095]
theorem impl_makeQuestion.tab6 : rtab .any (opsOf Tryz.f39 6) = impl_makeQuestion.T6 := by kernel_rfl
theorem impl_makeQuestion.bits6 : waitsOk impl_makeQuestion.T6.2 impl_makeQuestion.B6 = true := by kernel_rfl
set_option maxHeartbeats 3000000 in
set_option maxRecDepth 100000 in
theorem impl_makeQuestion.calls (k : Nat) (A0 : Option Addr) (c0 : Nat) (l : List S62) (A1 : Option Addr) (c1 : Nat) (ls : List (List Int)) (a : Int) (n : Int) (r1 : Int) (r2 : List Int) (r3 : Bool) (w : World) (hr0 : Kd.C k62 w A0 l.length l) (hc0 : l.length ≤ c0) (hr1 : Kd.C (Kd.slice 3 (Kd.int .i64)) w A1 ls.length ls) (hc1 : ls.length ≤ c1) (h : impl_makeQuestion.f k l ls a n = some (r1, r2, r3)) :
  Calls Tryz.prog 39 #[.slice A0 l.length c0, .slice A1 ls.length c1, .int .i64 a, .int .i64 n] w fun e w' => ∃ v1_ : Value, e = .returned (.tuple #[.agg #[.int .i64 r1, v1_], .bool r3]) ∧ Kd.R (Kd.int .i64) 3 w' w.heap.size (fun _ => True) v1_ r2 ∧ Below w.heap.size w w' := by
 have huq := Tryz.underlying28
 have HR0 := Aside0.mk hr0
 have HR1 := Aside0.mk hr1
 have HC1 := Aside0.mk hc1
 clear hr0 hc0 hr1 hc1
 have HB := Aside0.mk (Below.refl w.heap.size w)
 unfold impl_makeQuestion.f at h
 obtain ⟨o, HA1, h⟩ := Option.bind_eq_some_iff.mp h
 replace HA1 := Aside0.mk HA1
 by_cases hkk : impl_makeQuestion.okB l a o = true
 case neg => rw [if_neg hkk] at h; cases h
 rw [if_pos hkk] at h
 obtain ⟨hok, hin, hlen⟩ := impl_makeQuestion.ok_of hkk
 clear hkk
 obtain ⟨b, HA2, h⟩ := Option.bind_eq_some_iff.mp h
 replace HA2 := Aside0.mk HA2
 generalize hd : impl_makeQuestion.rest l a o = d at h
 obtain ⟨m, hm⟩ : ∃ m_ : Int, wrap64 (n - 1) = m_ := ⟨_, rfl⟩
 have hmw : IntKind.i64.wrap (n - 1) = m := (i64_w _).trans hm
 rw [hm] at h
 cases b with
 | false =>
  rw [if_neg (by decide)] at h
  simp only [Option.some.injEq, Prod.mk.injEq] at h
  obtain ⟨rfl, rfl, rfl⟩ := h
  go_enter Tryz.func39, Tryz.ntmps39
  go_wp2_with (first | ((with_reducible refine gate_dst (N := 4) rfl ?_); refine box_event ?hg (N := 4) ?hd (cs := #[.slice A0 l.length c0]) (t := 31) ?hr ?_; (case hd => rfl); (case hg => rfl); (case hr => first | (go_simp; done) | (go_simp; rfl)); intro g4 hg w1 hbox hb; have BK4 := Aside0.mk hbox; have n1_ := Aside0.mk (below_step HB.out hb); clear HB; have HB := n1_; clear n1_ hb hg hbox) | ((with_reducible refine gate_dst (N := 6) rfl ?_); refine box_event ?hg (N := 6) ?hd (cs := #[.int .i64 a]) (t := 3) ?hr ?_; (case hd => rfl); (case hg => rfl); (case hr => first | (go_simp; done) | (go_simp; rfl)); intro g6 hg w2 hbox hb; have n0_ := Aside0.mk (blk_below BK4.out hb); have BK6 := Aside0.mk hbox; have n1_ := Aside0.mk (below_step HB.out hb); clear HB BK4; have HB := n1_; have BK4 := n0_; clear n0_ n1_ hb hg hbox) | ((with_reducible refine gate_dst (N := 8) rfl ?_); refine box_event ?hg (N := 8) ?hd (cs := #[.int .i64 0, .slice none 0 0]) (t := 28) ?hr ?_; (case hd => rfl); (case hg => rfl); (case hr => first | (go_simp; done) | (go_simp; rfl)); intro g8 hg w8 hbox hb; have NE68 := Aside0.mk (show g6 ≠ g8 from by have h_ := blk_lt BK6.out; rw [hg]; exact Nat.ne_of_lt h_); have n0_ := Aside0.mk (blk_below BK4.out hb); have n2_ := Aside0.mk (blk_below BK6.out hb); have BK8 := Aside0.mk hbox; have GE8 := Aside0.mk (show w.heap.size ≤ g8 from by rw [hg]; exact below_size HB.out); have n1_ := Aside0.mk (below_step HB.out hb); clear HB BK4 BK6; have HB := n1_; have BK4 := n0_; have BK6 := n2_; clear n0_ n1_ n2_ hb hg hbox; have HL4 := Aside0.mk (blk_lt BK4.out); have HL6 := Aside0.mk (blk_lt BK6.out); have HL8 := Aside0.mk (blk_lt BK8.out); have HLE := Aside0.mk (below_size HB.out)) | (go_at_call 61; refine (slices_Concat_int.calls k A1 c1 ls o w8 (Kd.C_below HR1.out HB.out) HC1.out HA1.out).mono ?_; rintro e w9 ⟨v10, rfl, hro, hb⟩; have HRO := Aside0.mk hro; have n0_ := Aside0.mk (blk_below BK4.out hb); have n1_ := Aside0.mk (blk_below BK6.out hb); have n2_ := Aside0.mk (blk_below BK8.out hb); have n3_ := Aside0.mk (below_step HB.out hb); clear BK4 BK6 BK8 HB; have BK4 := n0_; have BK6 := n1_; have BK8 := n2_; have HB := n3_; clear n0_ n1_ n2_ n3_; clear hb hro) | (go_at_call 62; refine (impl_makeQuestion.sort A0 c0 l a g4 g6 w8.heap.size v10 o w _ hok hin hlen HR0.out HB.out HLE.out HRO.out BK4.out BK6.out HL4.out HL6.out).mono ?_; rintro e w10 ⟨rfl, hr, hg⟩; have n0_ := Aside0.mk (blk_grown BK4.out hg (fun e_ => by have h1_ := Kd.R_base HRO.out _ e_.symm; have h2_ := HL4.out; omega)); have n1_ := Aside0.mk (blk_grown BK6.out hg (fun e_ => by have h1_ := Kd.R_base HRO.out _ e_.symm; have h2_ := HL6.out; omega)); have n2_ := Aside0.mk (blk_grown BK8.out hg (fun e_ => by have h1_ := Kd.R_base HRO.out _ e_.symm; have h2_ := HL8.out; omega)); have n3_ := Aside0.mk (HB.out.grown hg HB.out.size (fun k_ hk_ => Nat.le_trans HLE.out (Kd.R_base HRO.out k_ hk_))); clear BK4 BK6 BK8 HB; have BK4 := n0_; have BK6 := n1_; have BK8 := n2_; have HB := n3_; clear n0_ n1_ n2_ n3_; clear HRO; have HRO := Aside0.mk hr; clear hr hg) | (go_at_call 66; refine (impl_makeQuestion.del a g6 w8.heap.size v10 _ _ HRO.out BK6.out HL6.out).mono ?_; rintro e w11 ⟨v11, rfl, hr, ho_, hg⟩; have n0_ := Aside0.mk (blk_grown BK4.out hg (fun e_ => by have h1_ := Kd.R_base HRO.out _ e_.symm; have h2_ := HL4.out; omega)); have n1_ := Aside0.mk (blk_grown BK6.out hg (fun e_ => by have h1_ := Kd.R_base HRO.out _ e_.symm; have h2_ := HL6.out; omega)); have n2_ := Aside0.mk (blk_grown BK8.out hg (fun e_ => by have h1_ := Kd.R_base HRO.out _ e_.symm; have h2_ := HL8.out; omega)); have n3_ := Aside0.mk (HB.out.grown hg HB.out.size (fun k_ hk_ => Nat.le_trans HLE.out (Kd.R_base HRO.out k_ hk_))); clear BK4 BK6 BK8 HB; have BK4 := n0_; have BK6 := n1_; have BK8 := n2_; have HB := n3_; clear n0_ n1_ n2_ n3_; clear HRO; have hr2 : Kd.R (Kd.int .i64) 3 w11 w8.heap.size (fun _ => True) v11 d := (by rw [← hd]; exact hr); obtain ⟨Ad, cd, rfl⟩ := Kd.R_slice hr2; have HRD := Aside0.mk hr2; clear hr hr2 hg ho_; have hx6 := (blk_cell BK6.out 0).trans (show (#[Value.int .i64 a] : Array Value)[0]? = some (.int .i64 a) from rfl)) | (go_at_call 68; refine (impl_isTaught.calls k A1 c1 ls a false _ (Kd.C_below HR1.out HB.out) HC1.out HA2.out).mono ?_; rintro e w12 ⟨rfl, hb⟩; have n0_ := Aside0.mk (blk_below BK4.out hb); have n1_ := Aside0.mk (blk_below BK6.out hb); have n2_ := Aside0.mk (blk_below BK8.out hb); have n3_ := Aside0.mk (below_step HB.out hb); clear BK4 BK6 BK8 HB; have BK4 := n0_; have BK6 := n1_; have BK8 := n2_; have HB := n3_; clear n0_ n1_ n2_ n3_; have n4_ := Aside0.mk (Kd.R_below HRD.out hb); clear HRD hx6; have HRD := n4_; clear n4_ hb; have hx6 := (blk_cell BK6.out 0).trans (show (#[Value.int .i64 a] : Array Value)[0]? = some (.int .i64 a) from rfl); have hz0 := (blk_cell BK8.out 0).trans (show (#[Value.int .i64 0, Value.slice none 0 0] : Array Value)[0]? = some (.int .i64 0) from rfl); have hz1 := (blk_cell BK8.out 1).trans (show (#[Value.int .i64 0, Value.slice none 0 0] : Array Value)[1]? = some (.slice none 0 0) from rfl); have hf0 := blk_frozen BK8.out 0; have hf1 := blk_frozen BK8.out 1))
  refine bodyPost_ret (results_ct rfl _ _ g8 28 #[.int .i64 0, .slice none 0 0] (0, 0) _ rfl (by refine blk_put (cs := #[.int .i64 0, .slice none 0 0]) ?_ 1 _ rfl; refine blk_put (cs := #[.int .i64 0, .slice none 0 0]) ?_ 0 _ rfl; exact BK8.out) Tryz.underlying28 rfl (by kernel_rfl)) rfl ?_
  exact ⟨_, by first | rfl | (simp; done), Kd.R_nil _ _ _ _ _, below_set (below_set HB.out GE8.out) GE8.out⟩
 | true =>
  rw [if_pos rfl] at h
  by_cases cl : (d.length : Int) < m
  ·rw [if_pos cl] at h
   have cl0 : decide ((d.length : Int) < m) = true := decide_eq_true cl
   simp only [Option.some.injEq, Prod.mk.injEq] at h
   obtain ⟨rfl, rfl, rfl⟩ := h
   clear cl
   go_enter Tryz.func39, Tryz.ntmps39
   go_wp2_with (first | ((with_reducible refine gate_dst (N := 4) rfl ?_); refine box_event ?hg (N := 4) ?hd (cs := #[.slice A0 l.length c0]) (t := 31) ?hr ?_; (case hd => rfl); (case hg => rfl); (case hr => first | (go_simp; done) | (go_simp; rfl)); intro g4 hg w1 hbox hb; have BK4 := Aside0.mk hbox; have n1_ := Aside0.mk (below_step HB.out hb); clear HB; have HB := n1_; clear n1_ hb hg hbox) | ((with_reducible refine gate_dst (N := 6) rfl ?_); refine box_event ?hg (N := 6) ?hd (cs := #[.int .i64 a]) (t := 3) ?hr ?_; (case hd => rfl); (case hg => rfl); (case hr => first | (go_simp; done) | (go_simp; rfl)); intro g6 hg w2 hbox hb; have n0_ := Aside0.mk (blk_below BK4.out hb); have BK6 := Aside0.mk hbox; have n1_ := Aside0.mk (below_step HB.out hb); clear HB BK4; have HB := n1_; have BK4 := n0_; clear n0_ n1_ hb hg hbox) | ((with_reducible refine gate_dst (N := 8) rfl ?_); refine box_event ?hg (N := 8) ?hd (cs := #[.int .i64 0, .slice none 0 0]) (t := 28) ?hr ?_; (case hd => rfl); (case hg => rfl); (case hr => first | (go_simp; done) | (go_simp; rfl)); intro g8 hg w8 hbox hb; have NE68 := Aside0.mk (show g6 ≠ g8 from by have h_ := blk_lt BK6.out; rw [hg]; exact Nat.ne_of_lt h_); have n0_ := Aside0.mk (blk_below BK4.out hb); have n2_ := Aside0.mk (blk_below BK6.out hb); have BK8 := Aside0.mk hbox; have GE8 := Aside0.mk (show w.heap.size ≤ g8 from by rw [hg]; exact below_size HB.out); have n1_ := Aside0.mk (below_step HB.out hb); clear HB BK4 BK6; have HB := n1_; have BK4 := n0_; have BK6 := n2_; clear n0_ n1_ n2_ hb hg hbox; have HL4 := Aside0.mk (blk_lt BK4.out); have HL6 := Aside0.mk (blk_lt BK6.out); have HL8 := Aside0.mk (blk_lt BK8.out); have HLE := Aside0.mk (below_size HB.out)) | (go_at_call 61; refine (slices_Concat_int.calls k A1 c1 ls o w8 (Kd.C_below HR1.out HB.out) HC1.out HA1.out).mono ?_; rintro e w9 ⟨v10, rfl, hro, hb⟩; have HRO := Aside0.mk hro; have n0_ := Aside0.mk (blk_below BK4.out hb); have n1_ := Aside0.mk (blk_below BK6.out hb); have n2_ := Aside0.mk (blk_below BK8.out hb); have n3_ := Aside0.mk (below_step HB.out hb); clear BK4 BK6 BK8 HB; have BK4 := n0_; have BK6 := n1_; have BK8 := n2_; have HB := n3_; clear n0_ n1_ n2_ n3_; clear hb hro) | (go_at_call 62; refine (impl_makeQuestion.sort A0 c0 l a g4 g6 w8.heap.size v10 o w _ hok hin hlen HR0.out HB.out HLE.out HRO.out BK4.out BK6.out HL4.out HL6.out).mono ?_; rintro e w10 ⟨rfl, hr, hg⟩; have n0_ := Aside0.mk (blk_grown BK4.out hg (fun e_ => by have h1_ := Kd.R_base HRO.out _ e_.symm; have h2_ := HL4.out; omega)); have n1_ := Aside0.mk (blk_grown BK6.out hg (fun e_ => by have h1_ := Kd.R_base HRO.out _ e_.symm; have h2_ := HL6.out; omega)); have n2_ := Aside0.mk (blk_grown BK8.out hg (fun e_ => by have h1_ := Kd.R_base HRO.out _ e_.symm; have h2_ := HL8.out; omega)); have n3_ := Aside0.mk (HB.out.grown hg HB.out.size (fun k_ hk_ => Nat.le_trans HLE.out (Kd.R_base HRO.out k_ hk_))); clear BK4 BK6 BK8 HB; have BK4 := n0_; have BK6 := n1_; have BK8 := n2_; have HB := n3_; clear n0_ n1_ n2_ n3_; clear HRO; have HRO := Aside0.mk hr; clear hr hg) | (go_at_call 66; refine (impl_makeQuestion.del a g6 w8.heap.size v10 _ _ HRO.out BK6.out HL6.out).mono ?_; rintro e w11 ⟨v11, rfl, hr, ho_, hg⟩; have n0_ := Aside0.mk (blk_grown BK4.out hg (fun e_ => by have h1_ := Kd.R_base HRO.out _ e_.symm; have h2_ := HL4.out; omega)); have n1_ := Aside0.mk (blk_grown BK6.out hg (fun e_ => by have h1_ := Kd.R_base HRO.out _ e_.symm; have h2_ := HL6.out; omega)); have n2_ := Aside0.mk (blk_grown BK8.out hg (fun e_ => by have h1_ := Kd.R_base HRO.out _ e_.symm; have h2_ := HL8.out; omega)); have n3_ := Aside0.mk (HB.out.grown hg HB.out.size (fun k_ hk_ => Nat.le_trans HLE.out (Kd.R_base HRO.out k_ hk_))); clear BK4 BK6 BK8 HB; have BK4 := n0_; have BK6 := n1_; have BK8 := n2_; have HB := n3_; clear n0_ n1_ n2_ n3_; clear HRO; have hr2 : Kd.R (Kd.int .i64) 3 w11 w8.heap.size (fun _ => True) v11 d := (by rw [← hd]; exact hr); obtain ⟨Ad, cd, rfl⟩ := Kd.R_slice hr2; have HRD := Aside0.mk hr2; clear hr hr2 hg ho_; have hx6 := (blk_cell BK6.out 0).trans (show (#[Value.int .i64 a] : Array Value)[0]? = some (.int .i64 a) from rfl)) | (go_at_call 68; refine (impl_isTaught.calls k A1 c1 ls a true _ (Kd.C_below HR1.out HB.out) HC1.out HA2.out).mono ?_; rintro e w12 ⟨rfl, hb⟩; have n0_ := Aside0.mk (blk_below BK4.out hb); have n1_ := Aside0.mk (blk_below BK6.out hb); have n2_ := Aside0.mk (blk_below BK8.out hb); have n3_ := Aside0.mk (below_step HB.out hb); clear BK4 BK6 BK8 HB; have BK4 := n0_; have BK6 := n1_; have BK8 := n2_; have HB := n3_; clear n0_ n1_ n2_ n3_; have n4_ := Aside0.mk (Kd.R_below HRD.out hb); clear HRD hx6; have HRD := n4_; clear n4_ hb; have hx6 := (blk_cell BK6.out 0).trans (show (#[Value.int .i64 a] : Array Value)[0]? = some (.int .i64 a) from rfl); have hz0 := (blk_cell BK8.out 0).trans (show (#[Value.int .i64 0, Value.slice none 0 0] : Array Value)[0]? = some (.int .i64 0) from rfl); have hz1 := (blk_cell BK8.out 1).trans (show (#[Value.int .i64 0, Value.slice none 0 0] : Array Value)[1]? = some (.slice none 0 0) from rfl); have hf0 := blk_frozen BK8.out 0; have hf1 := blk_frozen BK8.out 1))
   refine bodyPost_ret (results_ct rfl _ _ g8 28 #[.int .i64 0, .slice none 0 0] (0, 0) _ rfl (by refine blk_put (cs := #[.int .i64 0, .slice none 0 0]) ?_ 1 _ rfl; refine blk_put (cs := #[.int .i64 0, .slice none 0 0]) ?_ 0 _ rfl; exact BK8.out) Tryz.underlying28 rfl (by kernel_rfl)) rfl ?_
   exact ⟨_, by first | rfl | (simp; done), Kd.R_nil _ _ _ _ _, below_set (below_set HB.out GE8.out) GE8.out⟩
  ·rw [if_neg cl] at h
   have cl0 : decide ((d.length : Int) < m) = false := decide_eq_false cl
   by_cases cm : 0 ≤ m
   case neg => rw [if_neg cm] at h; cases h
   rw [if_pos cm] at h
   obtain ⟨c, HA3, h⟩ := Option.bind_eq_some_iff.mp h
   replace HA3 := Aside0.mk HA3
   by_cases cc : c.length < 17592186044416
   case neg => rw [if_neg cc] at h; cases h
   rw [if_pos cc] at h
   have LM := Aside0.mk cc
   obtain ⟨q, HA4, h⟩ := Option.bind_eq_some_iff.mp h
   replace HA4 := Aside0.mk HA4
   simp only [Option.some.injEq, Prod.mk.injEq] at h
   obtain ⟨rfl, rfl, rfl⟩ := h
   go_enter Tryz.func39, Tryz.ntmps39
   go_wp2_with (first | ((with_reducible refine gate_dst (N := 4) rfl ?_); refine box_event ?hg (N := 4) ?hd (cs := #[.slice A0 l.length c0]) (t := 31) ?hr ?_; (case hd => rfl); (case hg => rfl); (case hr => first | (go_simp; done) | (go_simp; rfl)); intro g4 hg w1 hbox hb; have BK4 := Aside0.mk hbox; have n1_ := Aside0.mk (below_step HB.out hb); clear HB; have HB := n1_; clear n1_ hb hg hbox) | ((with_reducible refine gate_dst (N := 6) rfl ?_); refine box_event ?hg (N := 6) ?hd (cs := #[.int .i64 a]) (t := 3) ?hr ?_; (case hd => rfl); (case hg => rfl); (case hr => first | (go_simp; done) | (go_simp; rfl)); intro g6 hg w2 hbox hb; have n0_ := Aside0.mk (blk_below BK4.out hb); have BK6 := Aside0.mk hbox; have n1_ := Aside0.mk (below_step HB.out hb); clear HB BK4; have HB := n1_; have BK4 := n0_; clear n0_ n1_ hb hg hbox) | ((with_reducible refine gate_dst (N := 8) rfl ?_); refine box_event ?hg (N := 8) ?hd (cs := #[.int .i64 0, .slice none 0 0]) (t := 28) ?hr ?_; (case hd => rfl); (case hg => rfl); (case hr => first | (go_simp; done) | (go_simp; rfl)); intro g8 hg w8 hbox hb; have NE68 := Aside0.mk (show g6 ≠ g8 from by have h_ := blk_lt BK6.out; rw [hg]; exact Nat.ne_of_lt h_); have n0_ := Aside0.mk (blk_below BK4.out hb); have n2_ := Aside0.mk (blk_below BK6.out hb); have BK8 := Aside0.mk hbox; have GE8 := Aside0.mk (show w.heap.size ≤ g8 from by rw [hg]; exact below_size HB.out); have n1_ := Aside0.mk (below_step HB.out hb); clear HB BK4 BK6; have HB := n1_; have BK4 := n0_; have BK6 := n2_; clear n0_ n1_ n2_ hb hg hbox; have HL4 := Aside0.mk (blk_lt BK4.out); have HL6 := Aside0.mk (blk_lt BK6.out); have HL8 := Aside0.mk (blk_lt BK8.out); have HLE := Aside0.mk (below_size HB.out)) | (go_at_call 61; refine (slices_Concat_int.calls k A1 c1 ls o w8 (Kd.C_below HR1.out HB.out) HC1.out HA1.out).mono ?_; rintro e w9 ⟨v10, rfl, hro, hb⟩; have HRO := Aside0.mk hro; have n0_ := Aside0.mk (blk_below BK4.out hb); have n1_ := Aside0.mk (blk_below BK6.out hb); have n2_ := Aside0.mk (blk_below BK8.out hb); have n3_ := Aside0.mk (below_step HB.out hb); clear BK4 BK6 BK8 HB; have BK4 := n0_; have BK6 := n1_; have BK8 := n2_; have HB := n3_; clear n0_ n1_ n2_ n3_; clear hb hro) | (go_at_call 62; refine (impl_makeQuestion.sort A0 c0 l a g4 g6 w8.heap.size v10 o w _ hok hin hlen HR0.out HB.out HLE.out HRO.out BK4.out BK6.out HL4.out HL6.out).mono ?_; rintro e w10 ⟨rfl, hr, hg⟩; have n0_ := Aside0.mk (blk_grown BK4.out hg (fun e_ => by have h1_ := Kd.R_base HRO.out _ e_.symm; have h2_ := HL4.out; omega)); have n1_ := Aside0.mk (blk_grown BK6.out hg (fun e_ => by have h1_ := Kd.R_base HRO.out _ e_.symm; have h2_ := HL6.out; omega)); have n2_ := Aside0.mk (blk_grown BK8.out hg (fun e_ => by have h1_ := Kd.R_base HRO.out _ e_.symm; have h2_ := HL8.out; omega)); have n3_ := Aside0.mk (HB.out.grown hg HB.out.size (fun k_ hk_ => Nat.le_trans HLE.out (Kd.R_base HRO.out k_ hk_))); clear BK4 BK6 BK8 HB; have BK4 := n0_; have BK6 := n1_; have BK8 := n2_; have HB := n3_; clear n0_ n1_ n2_ n3_; clear HRO; have HRO := Aside0.mk hr; clear hr hg) | (go_at_call 66; refine (impl_makeQuestion.del a g6 w8.heap.size v10 _ _ HRO.out BK6.out HL6.out).mono ?_; rintro e w11 ⟨v11, rfl, hr, ho_, hg⟩; have n0_ := Aside0.mk (blk_grown BK4.out hg (fun e_ => by have h1_ := Kd.R_base HRO.out _ e_.symm; have h2_ := HL4.out; omega)); have n1_ := Aside0.mk (blk_grown BK6.out hg (fun e_ => by have h1_ := Kd.R_base HRO.out _ e_.symm; have h2_ := HL6.out; omega)); have n2_ := Aside0.mk (blk_grown BK8.out hg (fun e_ => by have h1_ := Kd.R_base HRO.out _ e_.symm; have h2_ := HL8.out; omega)); have n3_ := Aside0.mk (HB.out.grown hg HB.out.size (fun k_ hk_ => Nat.le_trans HLE.out (Kd.R_base HRO.out k_ hk_))); clear BK4 BK6 BK8 HB; have BK4 := n0_; have BK6 := n1_; have BK8 := n2_; have HB := n3_; clear n0_ n1_ n2_ n3_; clear HRO; have hr2 : Kd.R (Kd.int .i64) 3 w11 w8.heap.size (fun _ => True) v11 d := (by rw [← hd]; exact hr); obtain ⟨Ad, cd, rfl⟩ := Kd.R_slice hr2; have HRD := Aside0.mk hr2; clear hr hr2 hg ho_; have hx6 := (blk_cell BK6.out 0).trans (show (#[Value.int .i64 a] : Array Value)[0]? = some (.int .i64 a) from rfl)) | (go_at_call 68; refine (impl_isTaught.calls k A1 c1 ls a true _ (Kd.C_below HR1.out HB.out) HC1.out HA2.out).mono ?_; rintro e w12 ⟨rfl, hb⟩; have n0_ := Aside0.mk (blk_below BK4.out hb); have n1_ := Aside0.mk (blk_below BK6.out hb); have n2_ := Aside0.mk (blk_below BK8.out hb); have n3_ := Aside0.mk (below_step HB.out hb); clear BK4 BK6 BK8 HB; have BK4 := n0_; have BK6 := n1_; have BK8 := n2_; have HB := n3_; clear n0_ n1_ n2_ n3_; have n4_ := Aside0.mk (Kd.R_below HRD.out hb); clear HRD hx6; have HRD := n4_; clear n4_ hb; have hx6 := (blk_cell BK6.out 0).trans (show (#[Value.int .i64 a] : Array Value)[0]? = some (.int .i64 a) from rfl); have hz0 := (blk_cell BK8.out 0).trans (show (#[Value.int .i64 0, Value.slice none 0 0] : Array Value)[0]? = some (.int .i64 0) from rfl); have hz1 := (blk_cell BK8.out 1).trans (show (#[Value.int .i64 0, Value.slice none 0 0] : Array Value)[1]? = some (.slice none 0 0) from rfl); have hf0 := blk_frozen BK8.out 0; have hf1 := blk_frozen BK8.out 1))
   have hml : m.toNat ≤ d.length := by omega
   have hlen2 : (d.take m.toNat).length = m.toNat := by rw [List.length_take, Nat.min_eq_left hml]
   have hcon := fun W' (hW : Below w12.heap.size w12 W') => (slices_Clone_int.calls Ad cd (d.take m.toNat) c W' (by have h_ := Kd.C_take (Kd.C_below (Kd.R_reads' HRD.out).2.2 hW) (m := m.toNat) hml; rw [hlen2]; rw [hlen2] at h_; exact h_) (by rw [hlen2]; exact Nat.le_trans hml (Kd.R_reads' HRD.out).2.1) HA3.out)
   rw [hlen2] at hcon
   have HCL := Aside0.mk hcon
   have hcd := (Kd.R_reads' HRD.out).2.1
   have P1 := eq_true cm
   have P2 : decide (0 ≤ m) = true := decide_eq_true cm
   have Q1 : (m ≤ (d.length : Int)) = True := eq_true (by omega)
   have Q2 : decide (m ≤ (d.length : Int)) = true := decide_eq_true (by omega)
   have Q3 : (m ≤ (cd : Int)) = True := eq_true (by omega)
   have Q4 : decide (m ≤ (cd : Int)) = true := decide_eq_true (by omega)
   have HX6 := Aside0.mk hx6
   refine start_ (n := 13) (S := fun w' => w'.cell? ⟨g6, 0, none⟩ = some (.int .i64 a)) (ds := []) #[X,X,X,X,X,X,X,X,X,X,X,X,X] (by kernel_rfl) rfl rfl hx6 (fun hHeld => ?_); refine with_tabW impl_makeQuestion.tab6 impl_makeQuestion.bits6 (fun HT_ HW_ => ?_)
   have HBC := Aside0.mk (below_drew1 (Below.refl w12.heap.size w12))
   clear hx6 hz0 hz1 hf0 hf1 hcon cm cl cc
   generalize w12.drew = w13 at HBC hHeld ⊢
   refine take_ (i := 0) (N := some 31) (v := ?_) (a' := ?_) #[Y,X,X,X,X,X,X,X,X,X,X,X,X] rfl rfl (take_ofW HT_.out HW_.out (by kernel_rfl)) (fun _ _ _ h => h) (Or.inl ⟨by rfl, ?_⟩) hHeld ?_ ?_
   rotate_left
   ·intro w' s0
    go_simp
    with_reducible rfl
   rotate_left
   ·simp only [Act.put, List.setIfInBounds_toArray, List.set_cons_zero, List.set_cons_succ, i64_w, i32_w]
    rfl
   refine pure_ (i := 1) (N := some 32) (v := ?_) (a' := ?_) #[Y,Y,X,X,X,X,X,X,X,X,X,X,X] rfl rfl (any_of HT_.out (by kernel_rfl)) (fun _ _ _ h => h) (Or.inl ⟨by rfl, ?_⟩) ?_ ?_
   rotate_left
   ·intro w'
    go_simp
    with_reducible rfl
   rotate_left
   ·simp only [Act.put, List.setIfInBounds_toArray, List.set_cons_zero, List.set_cons_succ, i64_w, i32_w]
    rfl
   refine pure_ (i := 2) (N := some 33) (v := ?_) (a' := ?_) #[Y,Y,Y,X,X,X,X,X,X,X,X,X,X] rfl rfl (any_of HT_.out (by kernel_rfl)) (fun _ _ _ h => h) (Or.inl ⟨by rfl, ?_⟩) ?_ ?_
   rotate_left
   ·intro w'
    go_simp
    with_reducible rfl
   rotate_left
   ·simp only [Act.put, List.setIfInBounds_toArray, List.set_cons_zero, List.set_cons_succ, i64_w, i32_w]
    rfl
   refine pure_ (i := 3) (N := some 34) (v := ?_) (a' := ?_) #[Y,Y,Y,Y,X,X,X,X,X,X,X,X,X] rfl rfl (any_of HT_.out (by kernel_rfl)) (fun _ _ _ h => h) (Or.inl ⟨by rfl, ?_⟩) ?_ ?_
   rotate_left
   ·intro w'
    go_simp
    with_reducible rfl
   rotate_left
   ·simp only [Act.put, List.setIfInBounds_toArray, List.set_cons_zero, List.set_cons_succ, i64_w, i32_w]
    rfl
   refine pure_ (i := 4) (N := some 35) (v := ?_) (a' := ?_) #[Y,Y,Y,Y,Y,X,X,X,X,X,X,X,X] rfl rfl (any_of HT_.out (by kernel_rfl)) (fun _ _ _ h => h) (Or.inl ⟨by rfl, ?_⟩) ?_ ?_
   rotate_left
   ·intro w'
    go_simp
    with_reducible rfl
   rotate_left
   ·simp only [Act.put, List.setIfInBounds_toArray, List.set_cons_zero, List.set_cons_succ, i64_w, i32_w]
    rfl
   refine take_ (i := 6) (N := some 37) (v := ?_) (a' := ?_) #[Y,Y,Y,Y,Y,X,Y,X,X,X,X,X,X] rfl rfl (take_ofW HT_.out HW_.out (by kernel_rfl)) (fun _ _ _ h => h) (Or.inl ⟨by rfl, ?_⟩) hHeld ?_ ?_
   rotate_left
   ·intro w' s0
    go_simp
    with_reducible rfl
   rotate_left
   ·simp only [Act.put, List.setIfInBounds_toArray, List.set_cons_zero, List.set_cons_succ, i64_w, i32_w]
    rfl
   refine join_ (σ := Value × Value) 5 #[Y,Y,Y,Y,Y,Y,Y,Y,X,X,X,X,X] (fun s_ => [(36, s_.1), (38, s_.2)]) (fun s_ w' => (w'.cell? ⟨g6, 0, none⟩ = some (.int .i64 a)) ∧ Kd.R (Kd.int .i64) 3 w' w12.heap.size (fun _ => True) s_.1 c ∧ Kd.R (Kd.int .i64) 3 w' w12.heap.size (fun _ => True) s_.2 [a] ∧ Below w12.heap.size w12 w') ?_ ?_
   rotate_left
   ·intro hCont
    refine two_ (i := 5) (j := 7) (Ni := some 36) (Nj := some 38) #[Y,Y,Y,Y,Y,Y,Y,X,X,X,X,X,X] #[Y,Y,Y,Y,Y,X,Y,Y,X,X,X,X,X] rfl rfl rfl rfl (two_of HT_.out (by kernel_rfl)) (by decide) (by decide) (fun K hK => ?_) (fun K hK => ?_)
    ·skip
     refine goes_ Tryz.func70 (by kernel_rfl) rfl #[.slice Ad m.toNat cd] (by rfl) rfl rfl (by (try simp only [List.map_toArray, List.map_cons, List.map_nil]); first | done | rfl | (simp only [List.length_drop, List.length_take]; rfl)) ?_
     with_reducible refine (HCL.out _ HBC.out).mono ?_
     rintro e w14 ⟨v36, rfl, hr36, hb⟩
     refine ⟨_, rfl, ?_⟩
     obtain ⟨A36, c36, rfl⟩ := Kd.R_slice hr36
     have HR36 := Aside0.mk (Kd.R_lower hr36 (below_size HBC.out))
     have HBD := Aside0.mk (below_step HBC.out hb)
     refine hK.out _ _ (show w14.cell? ⟨g6, 0, none⟩ = some (.int .i64 a) from (HBD.out.cell (World.block_lt_of_cell? _ _ HX6.out)).trans HX6.out) (fun hHeld => ?_)
     clear hK K
     refine norm_ (a' := ?_) ?_ ?_
     rotate_left
     ·show Act.put _ (some 36) _ = _
      simp only [Act.put, List.setIfInBounds_toArray, List.set_cons_zero, List.set_cons_succ, i64_w, i32_w]
      rfl
     refine one_ (i := 7) (N := some 38) #[Y,Y,Y,Y,Y,Y,Y,Y,X,X,X,X,X] rfl rfl (one_of HT_.out (by kernel_rfl)) (by decide) (fun K hK => ?_)
     refine Kd.R_lit_step (Kd.int .i64) (w0 := w12) w12.heap.size 3 (by rfl) (N := 38) rfl (xs := ([a] : List Int)) (inner := [.int .i64 a]) (ok := fun _ => True) (okp := fun _ => True) (by first | (go_simp; done) | (go_simp; rfl)) (Reps.one (show Kd.M (Kd.int .i64) _ _ _ a [.int .i64 a] from rfl) (Reps.none _ _)) (fun _ hk => hk) trivial HBD.out (below_size HBD.out) (by simp) ?_
     intro v38 w15 ho38 hbl hgl _
     obtain ⟨A38, c38, rfl⟩ := Kd.R_slice ho38
     refine hK.out _ _ (show w15.cell? ⟨g6, 0, none⟩ = some (.int .i64 a) from (hbl.cell (World.block_lt_of_cell? _ _ HX6.out)).trans HX6.out) (fun hHeld => ?_)
     clear hK K
     refine norm_ (a' := ?_) ?_ ?_
     rotate_left
     ·show Act.put _ (some 38) _ = _
      simp only [Act.put, List.setIfInBounds_toArray, List.set_cons_zero, List.set_cons_succ, i64_w, i32_w]
      rfl
     exact norm_ (by simp only [putAll, Act.put, List.setIfInBounds_toArray, List.set_cons_zero, List.set_cons_succ]) (hCont (.slice A36 c.length c36, .slice A38 ([a] : List Int).length c38) _ ⟨hHeld, Kd.R_grown HR36.out hgl (fun _ _ => by simp), ho38, hbl⟩)
    ·skip
     refine Kd.R_lit_step (Kd.int .i64) (w0 := w12) w12.heap.size 3 (by rfl) (N := 38) rfl (xs := ([a] : List Int)) (inner := [.int .i64 a]) (ok := fun _ => True) (okp := fun _ => True) (by first | (go_simp; done) | (go_simp; rfl)) (Reps.one (show Kd.M (Kd.int .i64) _ _ _ a [.int .i64 a] from rfl) (Reps.none _ _)) (fun _ hk => hk) trivial HBC.out (below_size HBC.out) (by simp) ?_
     intro v38 w14 ho38 hbl hgl _
     obtain ⟨A38, c38, rfl⟩ := Kd.R_slice ho38
     have HBL := Aside0.mk hbl
     refine hK.out _ _ (show w14.cell? ⟨g6, 0, none⟩ = some (.int .i64 a) from (hbl.cell (World.block_lt_of_cell? _ _ HX6.out)).trans HX6.out) (fun hHeld => ?_)
     clear hK K
     refine norm_ (a' := ?_) ?_ ?_
     rotate_left
     ·show Act.put _ (some 38) _ = _
      simp only [Act.put, List.setIfInBounds_toArray, List.set_cons_zero, List.set_cons_succ, i64_w, i32_w]
      rfl
     refine one_ (i := 5) (N := some 36) #[Y,Y,Y,Y,Y,Y,Y,Y,X,X,X,X,X] rfl rfl (one_of HT_.out (by kernel_rfl)) (by decide) (fun K hK => ?_)
     refine goes_ Tryz.func70 (by kernel_rfl) rfl #[.slice Ad m.toNat cd] (by rfl) rfl rfl (by (try simp only [List.map_toArray, List.map_cons, List.map_nil]); first | done | rfl | (simp only [List.length_drop, List.length_take]; rfl)) ?_
     with_reducible refine (HCL.out _ HBL.out).mono ?_
     rintro e w15 ⟨v36, rfl, hr36, hb⟩
     refine ⟨_, rfl, ?_⟩
     obtain ⟨A36, c36, rfl⟩ := Kd.R_slice hr36
     have HR36 := Aside0.mk (Kd.R_lower hr36 (below_size HBL.out))
     have HBD := Aside0.mk (below_step HBL.out hb)
     refine hK.out _ _ (show w15.cell? ⟨g6, 0, none⟩ = some (.int .i64 a) from (HBD.out.cell (World.block_lt_of_cell? _ _ HX6.out)).trans HX6.out) (fun hHeld => ?_)
     clear hK K
     refine norm_ (a' := ?_) ?_ ?_
     rotate_left
     ·show Act.put _ (some 36) _ = _
      simp only [Act.put, List.setIfInBounds_toArray, List.set_cons_zero, List.set_cons_succ, i64_w, i32_w]
      rfl
     exact norm_ (by simp only [putAll, Act.put, List.setIfInBounds_toArray, List.set_cons_zero, List.set_cons_succ]) (hCont (.slice A36 c.length c36, .slice A38 ([a] : List Int).length c38) _ ⟨hHeld, HR36.out, Kd.R_below ho38 hb, HBD.out⟩)
   rintro ⟨v36, v38⟩ w15 ⟨hHeld, hr36, hr38, hb15⟩
   dsimp only at hr36 hr38
   obtain ⟨A36, c36, rfl⟩ := Kd.R_slice hr36
   obtain ⟨A38, c38, rfl⟩ := Kd.R_slice hr38
   have HR36 := Aside0.mk hr36
   have HR38 := Aside0.mk hr38
   have HB15 := Aside0.mk hb15
   clear hr36 hr38 hb15
   refine norm_ (a' := ?_) ?_ ?_
   rotate_left
   ·simp only [putAll, Act.put, List.setIfInBounds_toArray, List.set_cons_zero, List.set_cons_succ]
    rfl
   refine one_ (i := 8) (N := some 39) #[Y,Y,Y,Y,Y,Y,Y,Y,Y,X,X,X,X] rfl rfl (one_of HT_.out (by kernel_rfl)) (by decide) (fun K hK => ?_)
   refine Kd.R_append_rows_step (Kd.int .i64) (Rr := fun x_ cs_ => cs_ = [Value.int .i64 x_]) (w0 := w12) w12.heap.size (by rfl) (.tmp 36) (.tmp 38) 26 3 (.int .i64 0) 8 rfl Tryz.underlying26 info3 rfl (by decide) (by omega) (.slice A36 c.length c36) c [a] A38 ([a] : List Int).length c38 (fun _ => True) (fun _ => False) rfl rfl HR36.out (Kd.R_reads' HR38.out).2.2 (fun _ _ hk => hk) (fun _ hk => hk.elim) (fun _ _ => trivial) HB15.out (below_size HB15.out) (by have := LM.out; simp only [List.length_singleton]; omega) ?_
   intro v39 w16 ho39 hb16 hg16 _
   obtain ⟨A39, c39, rfl⟩ := Kd.R_slice ho39
   have HR39 := Aside0.mk ho39
   have HB16 := Aside0.mk hb16
   clear ho39 hb16 hg16
   refine hK.out _ _ (show w16.cell? ⟨g6, 0, none⟩ = some (.int .i64 a) from (HB16.out.cell (World.block_lt_of_cell? _ _ HX6.out)).trans HX6.out) (fun hHeld => ?_)
   clear hK K
   refine norm_ (a' := ?_) ?_ ?_
   rotate_left
   ·show Act.put _ (some 39) _ = _
    simp only [Act.put, List.setIfInBounds_toArray, List.set_cons_zero, List.set_cons_succ, i64_w, i32_w]
    rfl
   refine one_ (i := 9) (N := some 40) #[Y,Y,Y,Y,Y,Y,Y,Y,Y,Y,X,X,X] rfl rfl (one_of HT_.out (by kernel_rfl)) (by decide) (fun K hK => ?_)
   refine goes_ Tryz.func69 (by kernel_rfl) rfl #[.slice A39 (c ++ [a]).length c39] (by rfl) rfl rfl (by (try simp only [List.map_toArray, List.map_cons, List.map_nil]); first | done | rfl | (simp only [List.length_drop, List.length_take]; rfl)) ?_
   with_reducible refine (impl_distinct_int.calls A39 c39 (c ++ [a]) q _ (Kd.R_reads' HR39.out).2.2 (Kd.R_reads' HR39.out).2.1 HA4.out).mono ?_
   rintro e w17 ⟨v40, rfl, hr40, hb⟩
   refine ⟨_, rfl, ?_⟩
   obtain ⟨A40, c40, rfl⟩ := Kd.R_slice hr40
   have HB17 := Aside0.mk (below_step HB16.out hb)
   have HR40 := Aside0.mk (Kd.R_mono (ok' := fun k_ => k_ ≠ g8) (Kd.R_bound hr40) (fun k_ hk_ => (by have h1_ := blk_lt BK8.out; have h2_ := below_size HB16.out; have h3_ := hk_.2.1; omega)))
   have HLE2 := Aside0.mk (show w.heap.size ≤ w16.heap.size from Nat.le_trans (below_size HB.out) (below_size HB16.out))
   have BK8' := Aside0.mk (blk_below BK8.out HB17.out)
   have BK6' := Aside0.mk (blk_below BK6.out HB17.out)
   clear hr40 hb
   refine hK.out _ _ (show w17.cell? ⟨g6, 0, none⟩ = some (.int .i64 a) from (HB17.out.cell (World.block_lt_of_cell? _ _ HX6.out)).trans HX6.out) (fun hHeld => ?_)
   clear hK K
   refine norm_ (a' := ?_) ?_ ?_
   rotate_left
   ·show Act.put _ (some 40) _ = _
    simp only [Act.put, List.setIfInBounds_toArray, List.set_cons_zero, List.set_cons_succ, i64_w, i32_w]
    rfl
   refine pure_ (i := 10) (N := some 41) (v := ?_) (a' := ?_) #[Y,Y,Y,Y,Y,Y,Y,Y,Y,Y,Y,X,X] rfl rfl (any_of HT_.out (by kernel_rfl)) (fun _ _ _ h => h) (Or.inl ⟨by rfl, ?_⟩) ?_ ?_
   rotate_left
   ·intro w'
    go_simp
    with_reducible rfl
   rotate_left
   ·simp only [Act.put, List.setIfInBounds_toArray, List.set_cons_zero, List.set_cons_succ, i64_w, i32_w]
    rfl
   have hz0 := (blk_cell BK8'.out 0).trans (show (#[Value.int .i64 0, Value.slice none 0 0] : Array Value)[0]? = some (.int .i64 0) from rfl)
   have hz1 := (blk_cell BK8'.out 1).trans (show (#[Value.int .i64 0, Value.slice none 0 0] : Array Value)[1]? = some (.slice none 0 0) from rfl)
   have hf0 := blk_frozen BK8'.out 0
   have hf1 := blk_frozen BK8'.out 1
   refine one_ (i := 11) (N := none) #[Y,Y,Y,Y,Y,Y,Y,Y,Y,Y,Y,Y,X] rfl rfl (one_of HT_.out (by kernel_rfl)) (by decide) (fun K hK => ?_)
   refine skip_ (w1 := ?_) (by rfl) rfl ?_ ?_
   rotate_left
   ·go_simp
    rfl
   refine hK.out _ _ ((blk_cell (blk_far (blk_far BK6'.out (p := ⟨g8, 0, none⟩) NE68.out _) (p := ⟨g8, 1, none⟩) NE68.out _) 0).trans rfl) (fun hHeld => ?_)
   clear hK K
   refine pure_ (i := 12) (N := some 9) (v := ?_) (a' := ?_) #[Y,Y,Y,Y,Y,Y,Y,Y,Y,Y,Y,Y,Y] rfl rfl (any_of HT_.out (by kernel_rfl)) (fun _ _ _ h => h) (Or.inl ⟨by rfl, ?_⟩) ?_ ?_
   rotate_left
   ·intro w'
    go_simp
    with_reducible rfl
   rotate_left
   ·simp only [Act.put, List.setIfInBounds_toArray, List.set_cons_zero, List.set_cons_succ, i64_w, i32_w]
    rfl
   refine done_ (done_of HT_.out (by kernel_rfl)) ?_
   try go_wp2
   refine bodyPost_ret (results_ct rfl _ _ g8 28 #[.int .i64 a, .slice A40 q.length c40] (0, 0) _ rfl (by refine blk_put (cs := #[.int .i64 a, .slice none 0 0]) ?_ 1 _ rfl; refine blk_put (cs := #[.int .i64 0, .slice none 0 0]) ?_ 0 _ rfl; exact BK8'.out) Tryz.underlying28 rfl (by kernel_rfl)) rfl ?_
   exact ⟨_, by first | rfl | (simp; done), Kd.R_mono (Kd.R_lower (Kd.R_far (p := ⟨g8, 1, none⟩) (Kd.R_far (p := ⟨g8, 0, none⟩) HR40.out (fun _ hk => hk) _) (fun _ hk => hk) _) HLE2.out) (fun _ _ => trivial), below_set (below_set (below_step HB.out HB17.out) GE8.out) GE8.out⟩


end Go.Proofs.YtnafjfdalapegaaGreat.Q
