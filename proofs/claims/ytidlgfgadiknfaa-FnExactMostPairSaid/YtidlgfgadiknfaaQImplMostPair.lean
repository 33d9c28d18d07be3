-- Written for the seat Ytidlgfgadiknfaa by a program of this session (wip/tool/gx.py) out of the translation. Lean checks it.
import Derived.Test.YtidlgfgadiknfaaQ0
import Derived.Test.YtidlgfgadiknfaaQBCmpIsNaNString
import Derived.Test.YtidlgfgadiknfaaQImplAreTokens
import Derived.Maps.OwnOps
import Derived.Maps.Views
import Derived.Maps.RangeWalk
import Derived.WideKeyEntry
import Derived.StillTailTactics
import Derived.Test.YtidlgfgadiknfaaGDel
import Derived.Test.YtidlgfgadiknfaaGIdx
import Derived.Test.YtidlgfgadiknfaaGBst
import Derived.Test.YtidlgfgadiknfaaGBst
import Derived.Test.YtidlgfgadiknfaaGStr
import Derived.Test.YtidlgfgadiknfaaWTab
import Derived.Test.YtidlgfgadiknfaaWApart
import Derived.Test.YtidlgfgadiknfaaWArr
import Derived.Test.YtidlgfgadiknfaaWFoot
import Derived.Test.YtidlgfgadiknfaaWKept
import Derived.Test.YtidlgfgadiknfaaWShare
import Derived.Test.YtidlgfgadiknfaaWN
import Derived.Test.YtidlgfgadiknfaaWInv
namespace Go.Proofs.Ytidlgfgadiknfaa.Q
open Go.RowKit Go.Proofs.YtidlgfgadiknfaaW.PrintWords Go.Proofs.YtidlgfgadiknfaaW.PrintLast Go.Proofs.YtidlgfgadiknfaaW.PrintMore
attribute [local go_sem] max2_int min2_int max_two min_two max_three min_three max_four min_four   -- for this text's walks alone
set_option linter.unusedVariables false
set_option linter.unusedSimpArgs false

attribute [local go_sem] Go.Proofs.YtidlgfgadiknfaaW.GStr.str_leq Go.Proofs.YtidlgfgadiknfaaW.GStr.str_gtr Go.Proofs.YtidlgfgadiknfaaW.GStr.str_geq
/-! ### impl_MostPair: function 7 -/
def impl_MostPair.f (k : Nat) (l0 : List ByteArray) : Option (ByteArray × ByteArray × Int × Bool) := (impl_areTokens.f k l0).bind fun t => if t = true then (if l0.length < 2 then some (⟨#[]⟩, ⟨#[]⟩, 0, false) else (if l0.length ≤ 1048576 then (if (l0.all fun s => decide (s.size ≤ 1048576)) = true then some ((Go.Proofs.YtidlgfgadiknfaaW.GBst.bestOf l0).1, (Go.Proofs.YtidlgfgadiknfaaW.GBst.bestOf l0).2.1, (Go.Proofs.YtidlgfgadiknfaaW.GBst.bestOf l0).2.2, true) else none) else none)) else some (⟨#[]⟩, ⟨#[]⟩, 0, false)
theorem impl_MostPair.mono : ∀ a0 k, LeO (impl_MostPair.f k a0) (impl_MostPair.f (k + 1) a0) := by
  intro a0 k
  unfold impl_MostPair.f
  exact LeO.bind (impl_areTokens.mono _ _) fun _ => LeO.refl _
set_option maxHeartbeats 1000000
end Go.Proofs.Ytidlgfgadiknfaa.Q
namespace Go.Proofs.Ytidlgfgadiknfaa.Q
open Go Go.RowKit Go.Lib Go.Maps Go.WideMaps Go.Proofs.YtidlgfgadiknfaaW.GBst Go.Proofs.YtidlgfgadiknfaaW.PrintWords Go.Proofs.YtidlgfgadiknfaaW.PrintLast Go.Proofs.YtidlgfgadiknfaaW.PrintMore Go.Proofs.YtidlgfgadiknfaaW Go.Proofs.Ytidlgfgadiknfaa.Q
set_option linter.unusedVariables false
set_option linter.unusedSimpArgs false
theorem impl_MostPair.arr : ArrKey Try.prog 30 9 2 := ⟨Try.underlying30, by kernel_rfl, by kernel_rfl, by kernel_rfl⟩
theorem impl_MostPair.law : Keyed Try.prog 30 := Keyed.of_law impl_MostPair.arr.law
theorem impl_MostPair.sz : ∃ m, Try.prog.types.size = m + 1 := ⟨Try.prog.types.size - 1, by have : 0 < Try.prog.types.size := of_decide_eq_true (by kernel_rfl); omega⟩
/-- The order of pairs, as the program asks it. -/
theorem impl_MostPair.cmp (x y a b : ByteArray) : ∃ c, slices_Compare_string.f 3 [x, y] [a, b] = some c ∧ -1 ≤ c ∧ c ≤ 1 ∧ (c < 0 ↔ plt x y a b) := by
  have hN : ∀ s : ByteArray, cmp_isNaN_string.f s = some false := fun s => by unfold cmp_isNaN_string.f; simp
  have hL : ∀ s t : ByteArray, (Op.bytesLess s.toList t.toList = true) = (lt s t) := fun s t => by
    rw [ByteArray.toList_eq, ByteArray.toList_eq, Go.Proofs.bytesLess_eq]
    exact decide_eq_true_eq
  have hC : ∀ s t : ByteArray, cmp_Compare_string.f s t = some (if lt s t then -1 else if lt t s then 1 else 0) := fun s t => by
    unfold cmp_Compare_string.f
    rw [hN, hN]
    simp only [Option.bind_some, Bool.false_eq_true, if_false, hL]
    by_cases h1 : lt s t
    · simp only [eq_true h1, if_true]
    · by_cases h2 : lt t s
      · simp only [eq_false h1, eq_true h2, if_true, if_false]
      · simp only [eq_false h1, eq_false h2, if_false]
  have w1 : wrap64 (0 + 1) = 1 := by unfold wrap64; omega
  have w2 : wrap64 (1 + 1) = 2 := by unfold wrap64; omega
  have n0 : ∀ p q : ByteArray, (([p, q] : List ByteArray).length : Int) = 2 := fun _ _ => rfl
  have r0 : ∀ p q : ByteArray, rdOf ByteArray.empty [p, q] 0 = p := fun _ _ => rfl
  have r1 : ∀ p q : ByteArray, rdOf ByteArray.empty [p, q] 1 = q := fun _ _ => rfl
  unfold slices_Compare_string.f
  simp only [slices_Compare_string.l0, n0, r0, r1, hC, w1, w2, Option.bind_some, show ((0 : Int) < 2) = True from eq_true (by omega), show ((0 : Int) ≤ 0) = True from eq_true (by omega), show ((0 : Int) ≥ 2) = False from eq_false (by omega), show ((1 : Int) < 2) = True from eq_true (by omega), show ((0 : Int) ≤ 1) = True from eq_true (by omega), show ((1 : Int) ≥ 2) = False from eq_false (by omega), show ((2 : Int) < 2) = False from eq_false (by omega), if_true, if_false]
  by_cases h1 : lt x a
  · simp only [eq_true h1, if_true]
    exact ⟨-1, rfl, by omega, by omega, fun _ => .inl h1, fun _ => by omega⟩
  · by_cases h2 : lt a x
    · simp only [eq_false h1, eq_true h2, if_true, if_false]
      refine ⟨1, rfl, by omega, by omega, fun h => absurd h (by omega), fun h => ?_⟩
      rcases h with h | ⟨rfl, _⟩
      · exact absurd h h1
      · exact absurd h2 lt_irr
    · obtain rfl := lt_tot h1 h2
      simp only [eq_false h1, if_false, if_true]
      by_cases h3 : lt y b
      · simp only [eq_true h3, if_true]
        exact ⟨-1, rfl, by omega, by omega, fun _ => .inr ⟨rfl, h3⟩, fun _ => by omega⟩
      · by_cases h4 : lt b y
        · simp only [eq_false h3, eq_true h4, if_true, if_false]
          refine ⟨1, rfl, by omega, by omega, fun h => absurd h (by omega), fun h => ?_⟩
          rcases h with h | ⟨_, h⟩
          · exact absurd h lt_irr
          · exact absurd h h3
        · simp only [eq_false h3, eq_false h4, if_true, if_false]
          refine ⟨0, rfl, by omega, by omega, fun h => absurd h (by omega), fun h => ?_⟩
          rcases h with h | ⟨_, h⟩
          · exact absurd h lt_irr
          · exact absurd h h3
/-- What the map holds: how often each pair is there. -/
def impl_MostPair.Holds (l : List ByteArray) (n : Nat) (D : DataW Unit) : Prop := Maps.IsMap D ∧ ∀ x y : ByteArray, x.size ≤ maxLen → y.size ≤ maxLen → D.atKey (plit x y) (.lit (.int .i64 0)) = .lit (.int .i64 (hits l x y n))
theorem impl_MostPair.nn (i : Nat) : 0 ≤ (i : Int) + 1 := by omega
theorem impl_MostPair.n0 (i : Nat) : 0 ≤ (i : Int) := by omega
theorem impl_MostPair.lt1 {i n : Nat} (h : i + 1 < n) : (i : Int) + 1 < (n : Int) := by omega
theorem impl_MostPair.lt0 {i n : Nat} (h : i + 1 < n) : (i : Int) < (n : Int) := by omega
theorem impl_MostPair.ltz {i n : Nat} (h : i < n) : (i : Int) < (n : Int) := by omega
theorem impl_MostPair.gez {i n : Nat} (h : ¬ i < n) : ¬ (i : Int) < (n : Int) := by omega
theorem impl_MostPair.wr0 {i n : Nat} (h : i + 1 < n) (hn : n ≤ 1048576) : wrap64 (i : Int) = (i : Int) := by unfold wrap64; omega
theorem impl_MostPair.wr1 {i n : Nat} (h : i + 1 < n) (hn : n ≤ 1048576) : wrap64 ((i : Int) + 1 + 1) = ((i + 2 : Nat) : Int) := by unfold wrap64; omega
theorem impl_MostPair.wrc {i n : Nat} {c : Int} (h : i + 1 < n) (hn : n ≤ 1048576) (h0 : 0 ≤ c) (hc : c ≤ i) : wrap64 (c + 1) = c + 1 := by unfold wrap64; omega
theorem impl_MostPair.holds_step {l : List ByteArray} {i : Nat} {D : DataW Unit} (hl : l.length ≤ 1048576) (h : i + 1 < l.length) (hS : ∀ s, s ∈ l → s.size ≤ 1048576) (hH : impl_MostPair.Holds l i D) {c : Int} (hat : D.atKey (plit l[i] l[i + 1]) (.lit (.int .i64 0)) = .lit (.int .i64 c)) : impl_MostPair.Holds l (i + 1) (D.put (plit l[i] l[i + 1]) (.lit (.int .i64 (wrap64 (c + 1))))) := by
  have hs1 : l[i].size ≤ maxLen := Nat.le_trans (hS _ (List.getElem_mem _)) (by decide)
  have hs2 : l[i + 1].size ≤ maxLen := Nat.le_trans (hS _ (List.getElem_mem _)) (by decide)
  have g1 : l.getD i ByteArray.empty = l[i] := by rw [List.getD_eq_getElem?_getD, List.getElem?_eq_getElem (by omega)]; rfl
  have g2 : l.getD (i + 1) ByteArray.empty = l[i + 1] := by rw [List.getD_eq_getElem?_getD, List.getElem?_eq_getElem h]; rfl
  have ec : c = hits l l[i] l[i + 1] i := by have := hat.symm.trans (hH.2 _ _ hs1 hs2); injection this with h1; injection h1
  have hb := hits_bounds l l[i] l[i + 1] i
  refine ⟨hH.1.put _ _, fun x y hx hy => ?_⟩
  rw [hits, g1, g2]
  by_cases e : l[i] = x ∧ l[i + 1] = y
  · rw [if_pos ⟨h, e⟩, ← e.1, ← e.2, Maps.atKey_put_same hH.1 (show WideAt.IsKeyLit (plit _ _) from trivial), impl_MostPair.wrc h hl (by omega) (by omega), ec]
  · rw [if_neg (fun h2 => e h2.2), Int.add_zero, Maps.atKey_put_other (fun he => e ?_), hH.2 x y hx hy]
    obtain ⟨h1, h2⟩ := plit_inj impl_MostPair.arr Try.underlying9 impl_MostPair.sz hx hy hs1 hs2 he
    exact ⟨h1.symm, h2.symm⟩
theorem impl_MostPair.pairC {w : World} {g : Nat} {t : TypeId} {x y : ByteArray} (h : w.heap[g]? = some (.cells #[.string x, .string y] t (0, 0))) : Kd.C Kd.string w (some ⟨g, 0, none⟩) ([x, y] : List ByteArray).length [x, y] := by
  refine ⟨rfl, (show 2 ≤ 9223372036854775807 by decide), fun _ => ⟨_, rfl, fun j p hj => ⟨[.string p], rfl, rfl, fun i u hu => ?_⟩⟩⟩
  have h0 := blk_cell h 0
  have h1 := blk_cell h 1
  match i, hu with
  | 0, hu =>
    obtain rfl : Value.string p = u := by simpa using hu
    match j, hj with
    | 0, hj =>
      obtain rfl : x = p := by simpa using hj
      rw [Addr.add_lit]
      exact h0.trans rfl
    | 1, hj =>
      obtain rfl : y = p := by simpa using hj
      rw [Addr.add_lit]
      exact h1.trans rfl
    | j + 2, hj => simp at hj
  | i + 1, hu => simp at hu
theorem impl_MostPair.setc (w : World) (a : Addr) (u : Value) : w.grownBy (w.setCell a u) (some a.block) := ⟨rfl, rfl, rfl, by simp, fun k _ hk => Below.heap_setCell w a u k (fun e => hk (by rw [e]))⟩
/-- Nothing that is not counted is better. -/
theorem impl_MostPair.top_all {l : List ByteArray} {s : St} (hS : ∀ t, t ∈ l → t.size ≤ 1048576) (hs : Src l s) (h : ∀ x y, x.size ≤ maxLen → y.size ≤ maxLen → ¬ better x y (cnt l x y) s) : ∀ x y, ¬ better x y (cnt l x y) s := by
  intro x y hb
  by_cases h0 : 0 < cnt l x y
  · obtain ⟨j, hj, e1, e2⟩ := cnt_find h0
    have g1 : l.getD j ByteArray.empty = l[j]'(by omega) := by rw [List.getD_eq_getElem?_getD, List.getElem?_eq_getElem (by omega)]; rfl
    have g2 : l.getD (j + 1) ByteArray.empty = l[j + 1]'(by omega) := by rw [List.getD_eq_getElem?_getD, List.getElem?_eq_getElem (by omega)]; rfl
    rw [g1] at e1
    rw [g2] at e2
    refine h x y ?_ ?_ hb
    · rw [← e1]; exact Nat.le_trans (hS _ (List.getElem_mem _)) (by decide)
    · rw [← e2]; exact Nat.le_trans (hS _ (List.getElem_mem _)) (by decide)
  · have hn := cnt_nonneg l x y
    have hp := src_pos hs
    rcases hb with hb | ⟨e, hb⟩
    · omega
    · rcases hs with rfl | ⟨h1, _⟩
      · exact plt_nil hb
      · omega
/-- What the loop over the map keeps: nothing that has come up is better. -/
def impl_MostPair.Top (l : List ByteArray) (left : Lit → Bool) (s : St) : Prop := ∀ x y, x.size ≤ maxLen → y.size ≤ maxLen → left (plit x y) = false → ¬ better x y (cnt l x y) s
theorem impl_MostPair.top_init {l : List ByteArray} {i : Nat} {D : DataW Unit} (hH : impl_MostPair.Holds l i D) (hc : ∀ x y, hits l x y i = cnt l x y) : impl_MostPair.Top l (Maps.has D) (⟨#[]⟩, ⟨#[]⟩, 0) := fun x y hx hy h => by
  have h1 := hH.2 x y hx hy
  rw [Maps.atKey_of_not_has h, hc] at h1
  injection h1 with h1
  injection h1 with _ h1
  rw [← h1]
  rintro (h2 | ⟨_, h2⟩)
  · exact absurd h2 (Int.lt_irrefl _)
  · exact plt_nil h2
theorem impl_MostPair.same_self (x y : ByteArray) : (plit x y).sameKey (plit x y) = true := WideAt.sameKey_self (show WideAt.IsKeyLit (plit x y) from trivial)
theorem impl_MostPair.top_step {l : List ByteArray} {left : Lit → Bool} {s s' : St} {x y : ByteArray} (hx : x.size ≤ maxLen) (hy : y.size ≤ maxLen) (hT : impl_MostPair.Top l left s) (hs : s' = pick l s x y) : impl_MostPair.Top l (fun z => left z && !z.sameKey (plit x y)) s' := fun a b ha hb h => by
  subst hs
  by_cases e : plit a b = plit x y
  · obtain ⟨rfl, rfl⟩ := plit_inj impl_MostPair.arr Try.underlying9 impl_MostPair.sz ha hb hx hy e
    exact not_better_own
  · have h1 : left (plit a b) = false := by
      have h2 : (left (plit a b) && !(plit a b).sameKey (plit x y)) = false := h
      rw [Maps.sameKey_ne e] at h2
      simpa using h2
    exact not_better_mono (hT a b ha hb h1)
theorem impl_MostPair.key_inv {x y : ByteArray} {kl : Lit} (h : keyOf Try.prog 30 (.agg #[.string x, .string y]) = some kl) : x.size ≤ maxLen ∧ y.size ≤ maxLen ∧ kl = plit x y := by
  obtain ⟨p, e, h1, h2, rfl⟩ := keyOf_inv impl_MostPair.arr Try.underlying9 impl_MostPair.sz h
  injection e with e
  simp only [Array.mk.injEq, List.cons.injEq, Value.string.injEq, and_true] at e
  obtain ⟨rfl, rfl⟩ := e
  exact ⟨h1, h2, rfl⟩
theorem impl_MostPair.cnt_of {l : List ByteArray} {i : Nat} {D : DataW Unit} (hH : impl_MostPair.Holds l i D) (hc : ∀ x y, hits l x y i = cnt l x y) {x y : ByteArray} {c : Int} {yv : DataW Unit × List MemPlace} (hx : x.size ≤ maxLen) (hy : y.size ≤ maxLen) (hR : plainElem Try.prog 3 (.int .i64 c) = some yv) (hat : ∀ zd, D.atKey (plit x y) zd = yv.1) : c = cnt l x y := by
  obtain ⟨a, e, rfl, _⟩ := plainElem_int_inv Try.underlying3 hR
  injection e with _ e
  have h1 := (hat _).symm.trans (hH.2 x y hx hy)
  injection h1 with h1
  injection h1 with _ h1
  rw [e, h1, hc]
theorem impl_MostPair.upd_yes {l : List ByteArray} {left : Lit → Bool} {s : St} {x y : ByteArray} {c : Int} (hx : x.size ≤ maxLen) (hy : y.size ≤ maxLen) (hc : c = cnt l x y) (hS : Src l s) (hT : impl_MostPair.Top l left s) (hb : better x y c s) : Src l (x, y, c) ∧ impl_MostPair.Top l (fun z => left z && !z.sameKey (plit x y)) (x, y, c) := by
  subst hc
  exact ⟨src_pick hS x y hb, impl_MostPair.top_step hx hy hT ((pick_iff l s x y).1 hb).symm⟩
theorem impl_MostPair.upd_no {l : List ByteArray} {left : Lit → Bool} {s : St} {x y : ByteArray} {c : Int} (hx : x.size ≤ maxLen) (hy : y.size ≤ maxLen) (hc : c = cnt l x y) (hT : impl_MostPair.Top l left s) (hb : ¬ better x y c s) : impl_MostPair.Top l (fun z => left z && !z.sameKey (plit x y)) s := by
  subst hc
  exact impl_MostPair.top_step hx hy hT ((pick_iff l s x y).2 hb).symm
theorem impl_MostPair.bk_set {w : World} {g : Nat} {t : TypeId} {a b x y : ByteArray} (h : w.heap[g]? = some (.cells #[.string a, .string b] t (0, 0))) : ((w.setCell ⟨g, 0, none⟩ (.string x)).setCell ⟨g, 1, none⟩ (.string y)).heap[g]? = some (.cells #[.string x, .string y] t (0, 0)) := by
  have := blk_set (blk_set h 0 (.string x)) 1 (.string y)
  simpa using this
def impl_MostPair.T7 : Bool × List (List Nat × List Nat) := (true, [([], []), ([], []), ([], []), ([2], [2]), ([1, 3], [1, 3]), ([4], [4]), ([], []), ([], []), ([6, 7], [6, 7]), ([8], [8]), ([5, 9], [5, 9]), ([0, 10], [0, 10]), ([11], [11]), ([0, 10, 0, 1, 2, 3, 4, 5, 6, 7, 8, 9, 10], [0, 10]), ([13], [13]), ([0, 14, 12, 13, 0, 1, 2, 3, 4, 5, 6, 7, 8, 9, 10, 11, 12, 13, 14], [0, 12, 14])])
def impl_MostPair.B7 : List Nat := [0, 0, 0, 4, 14, 30, 0, 0, 192, 448, 1022, 2047, 4095, 2047, 10239, 32767]
theorem impl_MostPair.tab7 : rtab .any (opsOf Try.f7 7) = impl_MostPair.T7 := by kernel_rfl
theorem impl_MostPair.bits7 : waitsOk impl_MostPair.T7.2 impl_MostPair.B7 = true := by kernel_rfl
def impl_MostPair.T12 : Bool × List (List Nat × List Nat) := (true, [([], []), ([], []), ([0, 1], [0, 1]), ([2], [2]), ([3], [3]), ([3], [3]), ([4, 5, 3], [3, 4, 5]), ([6, 3, 3], [3, 6]), ([7], [7]), ([7], [7]), ([8, 9, 7, 7], [7, 8, 9]), ([10, 7], [7, 10]), ([7, 11, 3], [3, 7, 11]), ([3, 12], [3, 12])])
def impl_MostPair.B12 : List Nat := [0, 0, 3, 7, 15, 15, 63, 127, 255, 255, 1023, 2047, 4095, 8191]
theorem impl_MostPair.tab12 : rtab .any (opsOf Try.f7 12) = impl_MostPair.T12 := by kernel_rfl
theorem impl_MostPair.bits12 : waitsOk impl_MostPair.T12.2 impl_MostPair.B12 = true := by kernel_rfl
set_option maxHeartbeats 2000000 in
set_option maxRecDepth 100000 in
theorem impl_MostPair.calls (k : Nat) (A0 : Option Addr) (c0 : Nat) (l0 : List ByteArray) (r1 r2 : ByteArray) (r3 : Int) (r4 : Bool) (w : World) (hr0 : Kd.C Kd.string w A0 l0.length l0) (hc0 : l0.length ≤ c0) (h : impl_MostPair.f k l0 = some (r1, r2, r3, r4)) :
    Calls Try.prog 7 #[.slice A0 l0.length c0] w fun e w' => e = .returned (.tuple #[.string r1, .string r2, .int .i64 r3, .bool r4]) ∧ Below w.heap.size w w' := by
  unfold impl_MostPair.f at h
  cases ht : impl_areTokens.f k l0 with
  | none => rw [ht] at h; cases h
  | some t =>
    rw [ht] at h
    have HT := Aside0.mk (fun (W' : World) (hb' : Below w.heap.size w W') => impl_areTokens.calls k A0 c0 l0 t W' (Kd.C_below hr0 hb') hc0 ht)
    clear ht
    cases t with
    | false =>
      have h : some ((⟨#[]⟩ : ByteArray), (⟨#[]⟩ : ByteArray), (0 : Int), false) = some (r1, r2, r3, r4) := h
      simp only [Option.some.injEq, Prod.mk.injEq] at h
      obtain ⟨rfl, rfl, rfl, rfl⟩ := h
      go_enter Try.func7, Try.ntmps7
      go_wp2_with (go_at_call 10; refine (HT.out _ (Below.refl _ _)).mono ?_; rintro e w2 ⟨rfl, hb2⟩)
      refine bodyPost_ret (results_list (rs := [.tmp 2, .tmp 3, .tmp 4, .tmp 5]) rfl (by simp) (.tmp (.tmp (.tmp (.tmp .nil))))) rfl ?_
      exact ⟨rfl, hb2⟩
    | true =>
      by_cases h2 : l0.length < 2
      · have h : (if l0.length < 2 then some ((⟨#[]⟩ : ByteArray), (⟨#[]⟩ : ByteArray), (0 : Int), false) else _) = some (r1, r2, r3, r4) := h
        rw [if_pos h2] at h
        simp only [Option.some.injEq, Prod.mk.injEq] at h
        obtain ⟨rfl, rfl, rfl, rfl⟩ := h
        have hl : (l0.length : Int) < 2 := by omega
        go_enter Try.func7, Try.ntmps7
        go_wp2_with (go_at_call 10; refine (HT.out _ (Below.refl _ _)).mono ?_; rintro e w2 ⟨rfl, hb2⟩)
        refine bodyPost_ret (results_list (rs := [.tmp 2, .tmp 3, .tmp 4, .tmp 5]) rfl (by simp) (.tmp (.tmp (.tmp (.tmp .nil))))) rfl ?_
        exact ⟨rfl, hb2⟩
      · have h : (if l0.length < 2 then _ else (if l0.length ≤ 1048576 then (if (l0.all fun s => decide (s.size ≤ 1048576)) = true then some ((bestOf l0).1, (bestOf l0).2.1, (bestOf l0).2.2, true) else none) else none)) = some (r1, r2, r3, r4) := h
        rw [if_neg h2] at h
        split at h
        · rename_i hlen
          split at h
          · rename_i hall
            simp only [Option.some.injEq, Prod.mk.injEq] at h
            obtain ⟨rfl, rfl, rfl, rfl⟩ := h
            have hl : ¬ (l0.length : Int) < 2 := by omega
            have hlb : decide ((l0.length : Int) < 2) = false := decide_eq_false hl
            have HR := Aside0.mk hr0
            have HS := Aside0.mk (fun s hs => of_decide_eq_true (List.all_eq_true.1 hall s hs) : ∀ s, s ∈ l0 → s.size ≤ 1048576)
            have HL := Aside0.mk hlen
            have HL2 := Aside0.mk h2
            clear hr0 hall hlen h2 hl
            have hmm := @run_makeMap Try.prog
            go_enter Try.func7, Try.ntmps7
            go_wp2_with (go_at_call 10; refine (HT.out _ (Below.refl _ _)).mono ?_; rintro e w2 ⟨rfl, hb2⟩)
            go_loopg [7] l0.length (fun gg v7 wr => ∃ (j : Nat) (D : DataW Unit), 1 ≤ j ∧ j ≤ l0.length ∧ l0.length - j ≤ gg ∧ v7 = .int .i64 j ∧ Aside0 (wr.ownsMap Try.prog 30 (plainElem Try.prog 3) w2.heap.size (j - 1) D) ∧ Aside0 (impl_MostPair.Holds l0 (j - 1) D) ∧ Aside0 (Below w.heap.size w wr) ∧ Aside0 (w2.heap.size < wr.heap.size))
            case atStart => exact ⟨1, .map [], Nat.le_refl _, by have := HL2.out; omega, by omega, rfl, ⟨World.ownsMap_made _ _ _ _⟩, ⟨⟨Maps.isMap_empty, fun x y _ _ => rfl⟩⟩, ⟨below_alloc hb2 _⟩, ⟨by simp⟩⟩
            case round =>
              obtain ⟨j, D, hj1, hj, hgg, rfl, HO, HH, HB, HZ⟩ := hrel
              obtain ⟨i, rfl⟩ : ∃ i, j = i + 1 := ⟨j - 1, by omega⟩
              rw [Nat.add_sub_cancel] at HO HH
              by_cases hlt : i + 1 < l0.length
              · have hltz : ((i + 1 : Nat) : Int) < (l0.length : Int) := by omega
                have hltb : decide (((i + 1 : Nat) : Int) < (l0.length : Int)) = true := decide_eq_true hltz
                have hsub : wrap64 (((i + 1 : Nat) : Int) - 1) = (i : Int) := by have := HL.out; unfold wrap64; omega
                obtain ⟨b, off, hA, hbl, hcell⟩ := GIdx.C_spot HR.out (by omega) (by decide)
                subst hA
                have at_ : ∀ q (hq : q < l0.length), wr.cell? ⟨b, off + q, none⟩ = some (.string l0[q]) := fun q hq => by
                  obtain ⟨cs, hcl, hK, hcc⟩ := hcell q _ (List.getElem?_eq_getElem hq)
                  have hK' : cs = [.string l0[q]] := hK
                  subst hK'
                  have hcx0 := hcc 0 _ rfl
                  refine (HB.out.cell (p := ⟨b, off + q, none⟩) hbl).trans ?_
                  have e_ : off + q * Kd.string.sz + 0 = off + q := by show off + q * 1 + 0 = off + q; omega
                  rwa [e_] at hcx0
                have hc1 := at_ i (by omega)
                have hc2 := at_ (i + 1) hlt
                clear at_ hcell
                obtain ⟨x, hx⟩ : ∃ x, x = l0[i] := ⟨_, rfl⟩
                obtain ⟨y, hy⟩ : ∃ y, y = l0[i + 1] := ⟨_, rfl⟩
                rw [← hx] at hc1
                rw [← hy] at hc2
                have hxz : x.size ≤ 1048576 := by rw [hx]; exact HS.out _ (List.getElem_mem _)
                have hyz : y.size ≤ 1048576 := by rw [hy]; exact HS.out _ (List.getElem_mem _)
                have hkey : keyOf Try.prog 30 (.agg #[.string x, .string y]) = some (plit x y) := keyOf_strs impl_MostPair.arr Try.underlying9 impl_MostPair.sz (Nat.le_trans hxz (by decide)) (Nat.le_trans hyz (by decide))
                have HB20 := Aside0.mk (below_drew1 (Below.refl wr.heap.size wr))
                have hO20 := HO.out.kept (GDel.grownBy_below none HB20.out) (by simp)
                obtain ⟨c, hrun, hat, hcw⟩ := hO20.lookup_int impl_MostPair.law Try.underlying29 Try.underlying3 (Try.zeroValue3 _) hkey
                obtain ⟨st, w3, w4, hE, hL1, hS, hown4, hgrow4, hgrow3⟩ := entry_store hO20 impl_MostPair.arr.law Try.underlying29 Try.underlying3 (show i + 1 < maxLen from by have := HL.out; unfold maxLen; omega) (fun u => Try.zeroValue3 u) hcw (wrap64_wf (c + 1)) HH.out.1 (show WideAt.IsKeyLit (plit x y) from trivial) hkey hrun
                have hc1' : wr.drew.cell? ⟨b, off + i, none⟩ = some (.string x) := hc1
                have hc2' : wr.drew.cell? ⟨b, off + (i + 1), none⟩ = some (.string y) := hc2
                have hlw : b < wr.drew.heap.size := Nat.lt_of_lt_of_le hbl HB.out.size
                have hbn : some b ≠ some w2.heap.size := fun e => by injection e with e; have := hb2.size; omega
                have hc13 : w3.cell? ⟨b, off + i, none⟩ = some (.string x) := (World.cell?_of_block (a := ⟨b, off + i, none⟩) (hgrow3.block b hlw hbn)).trans hc1'
                have hc23 : w3.cell? ⟨b, off + (i + 1), none⟩ = some (.string y) := (World.cell?_of_block (a := ⟨b, off + (i + 1), none⟩) (hgrow3.block b hlw hbn)).trans hc2'
                have HS4 : Aside0 (impl_MostPair.Holds l0 (i + 1) (D.put (plit x y) (.lit (.int .i64 (wrap64 (c + 1)))))) := ⟨by rw [hx, hy]; exact impl_MostPair.holds_step HL.out hlt HS.out HH.out (by rw [← hx, ← hy]; exact hat)⟩
                have HB4 : Aside0 (Below w.heap.size w w4) := ⟨(HB.out.trans (HB20.out.mono HB.out.size)).grown hgrow4 (Nat.le_trans HB.out.size HB20.out.size) (fun q hq => by injection hq with hq; have := hb2.size; omega)⟩
                have HZ4 : Aside0 (w2.heap.size < w4.heap.size) := ⟨Nat.lt_of_lt_of_le HZ.out (Nat.le_trans HB20.out.size hgrow4.size)⟩
                clear hlw hbn
                have HO4 := Aside0.mk hown4
                have hp1 : (0 ≤ (i : Int)) = True := eq_true (impl_MostPair.n0 i)
                have hq1 : ((i : Int) < (l0.length : Int)) = True := eq_true (impl_MostPair.lt0 hlt)
                have hw0 : wrap64 (i : Int) = (i : Int) := impl_MostPair.wr0 hlt HL.out
                have hp2 : (0 ≤ (i : Int) + 1) = True := eq_true (impl_MostPair.nn i)
                have hq2 : ((i : Int) + 1 < (l0.length : Int)) = True := eq_true (impl_MostPair.lt1 hlt)
                clear hx hy hxz hyz hat hown4 hgrow4 hgrow3 hkey hbl hO20 hcw
                go_wp2
                refine start_ (n := 16) (S := fun w' => w'.cell? ⟨b, off + i, none⟩ = some (.string x) ∧ w'.cell? ⟨b, off + (i + 1), none⟩ = some (.string y) ∧ (Instr.lookup 29 (.map (some w2.heap.size)) (.agg #[.string x, .string y]) false).run Try.prog w' = .ok (.int .i64 c) w') (ds := [15]) #[false, false, false, false, false, false, false, false, false, false, false, false, false, false, false, false] (by kernel_rfl) rfl rfl ⟨hc1, hc2, hrun⟩ (fun hHeld => ?_); refine with_tabW impl_MostPair.tab7 impl_MostPair.bits7 (fun HT_ HW_ => ?_)
                generalize wr.drew = w20 at hE hHeld ⊢
                refine pure_ (i := 0) (N := some 27) (v := ?_) (a' := ?_) #[true, false, false, false, false, false, false, false, false, false, false, false, false, false, false, false] rfl rfl (any_of HT_.out (by kernel_rfl)) (fun _ _ _ h => h) (Or.inl ⟨by rfl, ?_⟩) ?_ ?_
                rotate_left
                · intro w'
                  go_simp
                  with_reducible rfl
                rotate_left
                · simp only [Act.put, List.setIfInBounds_toArray, List.set_cons_zero, List.set_cons_succ, i64_w, i32_w]
                  rfl
                refine pure_ (i := 1) (N := some 28) (v := ?_) (a' := ?_) #[true, true, false, false, false, false, false, false, false, false, false, false, false, false, false, false] rfl rfl (any_of HT_.out (by kernel_rfl)) (fun _ _ _ h => h) (Or.inl ⟨by rfl, ?_⟩) ?_ ?_
                rotate_left
                · intro w'
                  go_simp
                  with_reducible rfl
                rotate_left
                · simp only [Act.put, List.setIfInBounds_toArray, List.set_cons_zero, List.set_cons_succ, i64_w, i32_w]
                  rfl
                refine pure_ (i := 2) (N := some 29) (v := ?_) (a' := ?_) #[true, true, true, false, false, false, false, false, false, false, false, false, false, false, false, false] rfl rfl (any_of HT_.out (by kernel_rfl)) (fun _ _ _ h => h) (Or.inl ⟨by rfl, ?_⟩) ?_ ?_
                rotate_left
                · intro w'
                  go_simp
                  with_reducible rfl
                rotate_left
                · simp only [Act.put, List.setIfInBounds_toArray, List.set_cons_zero, List.set_cons_succ, i64_w, i32_w]
                  rfl
                refine pure_ (i := 3) (N := some 30) (v := ?_) (a' := ?_) #[true, true, true, true, false, false, false, false, false, false, false, false, false, false, false, false] rfl rfl (any_of HT_.out (by kernel_rfl)) (fun _ _ _ h => h) (Or.inl ⟨by rfl, ?_⟩) ?_ ?_
                rotate_left
                · intro w'
                  go_simp
                  with_reducible rfl
                rotate_left
                · simp only [Act.put, List.setIfInBounds_toArray, List.set_cons_zero, List.set_cons_succ, i64_w, i32_w]
                  rfl
                refine pure_ (i := 4) (N := some 31) (v := ?_) (a' := ?_) #[true, true, true, true, true, false, false, false, false, false, false, false, false, false, false, false] rfl rfl (any_of HT_.out (by kernel_rfl)) (fun _ _ _ h => h) (Or.inl ⟨by rfl, ?_⟩) ?_ ?_
                rotate_left
                · intro w'
                  go_simp
                  with_reducible rfl
                rotate_left
                · simp only [Act.put, List.setIfInBounds_toArray, List.set_cons_zero, List.set_cons_succ, i64_w, i32_w]
                  rfl
                refine take_ (i := 5) (N := some 32) (v := ?_) (a' := ?_) #[true, true, true, true, true, true, false, false, false, false, false, false, false, false, false, false] rfl rfl (take_ofW HT_.out HW_.out (by kernel_rfl)) (fun _ _ _ h => h) (Or.inl ⟨by rfl, ?_⟩) hHeld ?_ ?_
                rotate_left
                · rintro w' ⟨s0, s1, s2⟩
                  go_simp
                  with_reducible rfl
                rotate_left
                · simp only [Act.put, List.setIfInBounds_toArray, List.set_cons_zero, List.set_cons_succ, i64_w, i32_w]
                  rfl
                refine pure_ (i := 6) (N := some 33) (v := ?_) (a' := ?_) #[true, true, true, true, true, true, true, false, false, false, false, false, false, false, false, false] rfl rfl (any_of HT_.out (by kernel_rfl)) (fun _ _ _ h => h) (Or.inl ⟨by rfl, ?_⟩) ?_ ?_
                rotate_left
                · intro w'
                  go_simp
                  with_reducible rfl
                rotate_left
                · simp only [Act.put, List.setIfInBounds_toArray, List.set_cons_zero, List.set_cons_succ, i64_w, i32_w]
                  rfl
                refine pure_ (i := 7) (N := some 34) (v := ?_) (a' := ?_) #[true, true, true, true, true, true, true, true, false, false, false, false, false, false, false, false] rfl rfl (any_of HT_.out (by kernel_rfl)) (fun _ _ _ h => h) (Or.inl ⟨by rfl, ?_⟩) ?_ ?_
                rotate_left
                · intro w'
                  go_simp
                  with_reducible rfl
                rotate_left
                · simp only [Act.put, List.setIfInBounds_toArray, List.set_cons_zero, List.set_cons_succ, i64_w, i32_w]
                  rfl
                refine pure_ (i := 8) (N := some 35) (v := ?_) (a' := ?_) #[true, true, true, true, true, true, true, true, true, false, false, false, false, false, false, false] rfl rfl (any_of HT_.out (by kernel_rfl)) (fun _ _ _ h => h) (Or.inl ⟨by rfl, ?_⟩) ?_ ?_
                rotate_left
                · intro w'
                  go_simp
                  with_reducible rfl
                rotate_left
                · simp only [Act.put, List.setIfInBounds_toArray, List.set_cons_zero, List.set_cons_succ, i64_w, i32_w]
                  rfl
                refine take_ (i := 9) (N := some 36) (v := ?_) (a' := ?_) #[true, true, true, true, true, true, true, true, true, true, false, false, false, false, false, false] rfl rfl (take_ofW HT_.out HW_.out (by kernel_rfl)) (fun _ _ _ h => h) (Or.inl ⟨by rfl, ?_⟩) hHeld ?_ ?_
                rotate_left
                · rintro w' ⟨s0, s1, s2⟩
                  go_simp
                  with_reducible rfl
                rotate_left
                · simp only [Act.put, List.setIfInBounds_toArray, List.set_cons_zero, List.set_cons_succ, i64_w, i32_w]
                  rfl
                refine pure_ (i := 10) (N := some 37) (v := ?_) (a' := ?_) #[true, true, true, true, true, true, true, true, true, true, true, false, false, false, false, false] rfl rfl (any_of HT_.out (by kernel_rfl)) (fun _ _ _ h => h) (Or.inl ⟨by rfl, ?_⟩) ?_ ?_
                rotate_left
                · intro w'
                  go_simp
                  with_reducible rfl
                rotate_left
                · simp only [Act.put, List.setIfInBounds_toArray, List.set_cons_zero, List.set_cons_succ, i64_w, i32_w]
                  rfl
                refine take_ (i := 11) (N := some 38) (v := ?_) (a' := ?_) #[true, true, true, true, true, true, true, true, true, true, true, true, false, false, false, false] rfl rfl (take_ofW HT_.out HW_.out (by kernel_rfl)) (fun _ _ _ h => h) (Or.inl ⟨by rfl, ?_⟩) hHeld ?_ ?_
                rotate_left
                · rintro w' ⟨s0, s1, s2⟩
                  go_simp
                  with_reducible rfl
                rotate_left
                · simp only [Act.put, List.setIfInBounds_toArray, List.set_cons_zero, List.set_cons_succ, i64_w, i32_w]
                  rfl
                refine pure_ (i := 12) (N := some 39) (v := ?_) (a' := ?_) #[true, true, true, true, true, true, true, true, true, true, true, true, true, false, false, false] rfl rfl (any_of HT_.out (by kernel_rfl)) (fun _ _ _ h => h) (Or.inl ⟨by rfl, ?_⟩) ?_ ?_
                rotate_left
                · intro w'
                  go_simp
                  with_reducible rfl
                rotate_left
                · simp only [Act.put, List.setIfInBounds_toArray, List.set_cons_zero, List.set_cons_succ, i64_w, i32_w]
                  rfl
                refine one_ (i := 13) (N := some 40) #[true, true, true, true, true, true, true, true, true, true, true, true, true, true, false, false] rfl rfl (one_of HT_.out (by kernel_rfl)) (by decide) (fun K hK => ?_)
                rw [if_pos (by rfl)]
                unfold Oper.wp
                go_simp
                refine hK.out _ _ ⟨hc13, hc23, hL1⟩ (fun hHeld => ?_)
                clear hK K
                refine pure_ (i := 14) (N := some 41) (v := ?_) (a' := ?_) #[true, true, true, true, true, true, true, true, true, true, true, true, true, true, true, false] rfl rfl (any_of HT_.out (by kernel_rfl)) (fun _ _ _ h => h) (Or.inl ⟨by rfl, ?_⟩) ?_ ?_
                rotate_left
                · intro w'
                  go_simp
                  with_reducible rfl
                rotate_left
                · simp only [Act.put, List.setIfInBounds_toArray, List.set_cons_zero, List.set_cons_succ, i64_w, i32_w]
                  rfl
                refine last_ (i := 15) (N := none) #[true, true, true, true, true, true, true, true, true, true, true, true, true, true, true, true] rfl rfl (one_of HT_.out (by kernel_rfl)) (by decide) (fun K hK => ?_)
                rw [if_pos (by rfl)]
                unfold Oper.wp
                go_simp
                refine hK.out _ _ ?_
                clear hK K
                refine done_ (done_of HT_.out (by kernel_rfl)) ?_
                clear hHeld hE hS hL1 hc13 hc23 hrun hc1' hc2' hp1 hq1 hp2 hq2 hw0
                go_wp2
                go_roundg (l0.length - (i + 2))
                case measure => omega
                case rel => exact ⟨i + 2, _, by omega, by omega, Nat.le_refl _, congrArg (Value.int .i64) (impl_MostPair.wr1 hlt HL.out), HO4, HS4, HB4, HZ4⟩
              · have hltz : ¬ ((i + 1 : Nat) : Int) < (l0.length : Int) := impl_MostPair.gez hlt
                have hltb : decide (((i + 1 : Nat) : Int) < (l0.length : Int)) = false := decide_eq_false hltz
                have HCN : Aside0 (∀ x y, hits l0 x y i = cnt l0 x y) := ⟨fun x y => by unfold cnt; rw [show l0.length - 1 = i by omega]⟩
                rename World => wa
                go_wp2_with (first | (at_range; refine wpList_range_own _ rfl _ 29 rfl 30 3 impl_MostPair.law Try.underlying29 _ w2.heap.size i D rfl (HO.out.kept (GDel.grownBy_below none (by repeat (first | exact Below.refl _ _ | apply below_alloc | refine below_set ?_ (Nat.le_refl _)))) (by simp)) ?_; intro w5 hrg5 hg5 hs5) | go_in)
                have e5 : (wa.alloc (Obj.cells #[Value.string ⟨#[]⟩, Value.string ⟨#[]⟩] 30)).heap.size = wa.heap.size + 1 := by simp
                rw [e5] at hrg5 hs5
                have BK5 : Aside0 (w5.heap[wa.heap.size]? = some (.cells #[.string ⟨#[]⟩, .string ⟨#[]⟩] 30 (0, 0))) := ⟨blk_grown (blk_new wa _) hg5 (by simp)⟩
                have HB5 : Aside0 (Below wa.heap.size wa w5) := ⟨(below_alloc (Below.refl _ _) _).trans ((Below.refl _ _).grown hg5 (Nat.le_refl _) (fun q hq => by cases hq) |>.mono (by simp))⟩
                have HRG5 := Aside0.mk hrg5
                have HZ5 : Aside0 (wa.heap.size + 1 < w5.heap.size) := ⟨by omega⟩
                clear hrg5 hg5 hs5 e5
                go_loopg [9] (Maps.size D) (fun gg v9 wq => ∃ (a b : ByteArray) (m : Int) (left : Lit → Bool) (cn : Nat), cn ≤ gg ∧ v9 = .int .i64 m ∧ Aside0 (wq.ranges Try.prog 30 (plainElem Try.prog 3) w2.heap.size (wa.heap.size + 1) i D left cn) ∧ Aside0 (wq.heap[wa.heap.size]? = some (.cells #[.string a, .string b] 30 (0, 0))) ∧ Aside0 (Below wa.heap.size wa wq) ∧ Aside0 (wa.heap.size + 1 < wq.heap.size) ∧ Aside0 (Src l0 (a, b, m)) ∧ Aside0 (impl_MostPair.Top l0 left (a, b, m)))
                case atStart => exact ⟨_, _, 0, _, _, Nat.le_refl _, rfl, HRG5, BK5, HB5, HZ5, ⟨.inl rfl⟩, ⟨impl_MostPair.top_init HH.out HCN.out⟩⟩
                case round =>
                  obtain ⟨a, b, m, left, cn, hcn, rfl, HRG, BK, HBQ, HZQ, HSR, HTP⟩ := hrel
                  clear HRG5 BK5 HB5 HZ5
                  have hrg := HRG.out
                  go_wp2_with (first | (at_next; go_loud (refine wpList_next_ranges (α := ByteArray × ByteArray) (β := Int) _ rfl _ rfl 30 impl_MostPair.law (plainElem Try.prog 3) (fun p => .agg #[.string p.1, .string p.2]) (Value.int .i64) (fun key kl hk => (keyOf_inv impl_MostPair.arr Try.underlying9 impl_MostPair.sz hk).imp fun _ h => h.1) (fun v y hv => (plainElem_int_inv Try.underlying3 hv).imp fun _ h => h.1) w2.heap.size (wa.heap.size + 1) i D left cn rfl hrg ?_ ?_)) | go_in)
                  · intro hc0 hl0
                    clear hrg HRG
                    have h0 : wr.cell? ⟨wa.heap.size, 0, none⟩ = some (.string a) := (blk_cell BK.out 0).trans rfl
                    have h1 : wr.cell? ⟨wa.heap.size, 1, none⟩ = some (.string b) := (blk_cell BK.out 1).trans rfl
                    have eb : (a, b, m) = bestOf l0 := best_only HSR.out (impl_MostPair.top_all HS.out HSR.out (fun x y hx hy => HTP.out x y hx hy (hl0 _)))
                    have HEB := Aside0.mk eb
                    have HBW := Aside0.mk (HB.out.trans (HBQ.out.mono HB.out.size))
                    clear eb hl0 hc0 HSR HTP HBQ BK
                    go_wp2
                    go_still_tail 8, (by kernel_rfl)
                    go_wp2
                    refine bodyPost_ret (results_list (rs := [.tmp 2, .tmp 3, .tmp 4, .tmp 5]) rfl (by simp) (.tmp (.tmp (.tmp (.tmp .nil))))) rfl ?_
                    exact ⟨by rw [← HEB.out]; rfl, below_drew1 HBW.out⟩
                  · intro x y c kl yd yp w6 cn6 hkey hlk hR hat hrg6 hlt6 hgr6 hsz6 hen
                    obtain ⟨hx, hy, rfl⟩ := impl_MostPair.key_inv hkey
                    have hc : c = cnt l0 x y := impl_MostPair.cnt_of HH.out HCN.out hx hy hR hat
                    have PK7 : Aside0 ((w6.alloc (Obj.cells #[Value.string x, Value.string y] 30)).drew.heap[w6.heap.size]? = some (.cells #[.string x, .string y] 30 (0, 0))) := ⟨blk_new w6 _⟩
                    have BK7 : Aside0 ((w6.alloc (Obj.cells #[Value.string x, Value.string y] 30)).drew.heap[wa.heap.size]? = some (.cells #[.string a, .string b] 30 (0, 0))) := ⟨blk_alloc (blk_grown BK.out hgr6 (by simp)) _⟩
                    have HB7 : Aside0 (Below wa.heap.size wa (w6.alloc (Obj.cells #[Value.string x, Value.string y] 30)).drew) := ⟨below_drew1 (below_alloc (HBQ.out.grown hgr6 HBQ.out.size (fun q hq => by injection hq with hq; omega)) _)⟩
                    have RG7 : Aside0 ((w6.alloc (Obj.cells #[Value.string x, Value.string y] 30)).drew.ranges Try.prog 30 (plainElem Try.prog 3) w2.heap.size (wa.heap.size + 1) i D (fun z => left z && !z.sameKey (plit x y)) cn6) := ⟨(hrg6.alloc _).kept (GDel.grownBy_below none (below_drew1 (Below.refl _ _))) (by simp) (by simp)⟩
                    have HZ7 : Aside0 (wa.heap.size + 1 < (w6.alloc (Obj.cells #[Value.string x, Value.string y] 30)).drew.heap.size) := ⟨Nat.lt_of_lt_of_le (Nat.lt_of_lt_of_le HZQ.out hgr6.size) (by show w6.heap.size ≤ (w6.alloc _).heap.size; simp)⟩
                    have HL6 := Aside0.mk hlt6
                    have HC := Aside0.mk hc
                    have HXY := Aside0.mk (And.intro hx hy)
                    clear hkey hlk hR hat hrg6 hgr6 hsz6 hrg HRG BK HBQ HZQ hlt6 hc hx hy
                    by_cases hA : m < c
                    · have hA' : (c > m) = True := eq_true hA
                      have hAb : decide (m < c) = true := decide_eq_true hA
                      have UPD := Aside0.mk (impl_MostPair.upd_yes HXY.out.1 HXY.out.2 HC.out HSR.out HTP.out (.inl hA))
                      go_wp2
                      refine start_ (n := 14) (S := fun w' => True) (ds := []) #[false, false, false, false, false, false, false, false, false, false, false, false, false, false] (by kernel_rfl) rfl rfl ⟨⟩ (fun hHeld => ?_); refine with_tabW impl_MostPair.tab12 impl_MostPair.bits12 (fun HT_ HW_ => ?_)
                      generalize (w6.alloc (Obj.cells #[Value.string x, Value.string y] 30)).drew = w70 at PK7 BK7 HB7 RG7 HZ7 ⊢
                      refine pure_ (i := 0) (N := some 50) (v := ?_) (a' := ?_) #[true, false, false, false, false, false, false, false, false, false, false, false, false, false] rfl rfl (any_of HT_.out (by kernel_rfl)) (fun _ _ _ h => h) (Or.inl ⟨by rfl, ?_⟩) ?_ ?_
                      rotate_left
                      · intro w'
                        go_simp
                        with_reducible rfl
                      rotate_left
                      · simp only [Act.put, List.setIfInBounds_toArray, List.set_cons_zero, List.set_cons_succ, i64_w, i32_w]
                        rfl
                      refine pure_ (i := 1) (N := some 51) (v := ?_) (a' := ?_) #[true, true, false, false, false, false, false, false, false, false, false, false, false, false] rfl rfl (any_of HT_.out (by kernel_rfl)) (fun _ _ _ h => h) (Or.inl ⟨by rfl, ?_⟩) ?_ ?_
                      rotate_left
                      · intro w'
                        go_simp
                        with_reducible rfl
                      rotate_left
                      · simp only [Act.put, List.setIfInBounds_toArray, List.set_cons_zero, List.set_cons_succ, i64_w, i32_w]
                        rfl
                      refine pure_ (i := 2) (N := some 52) (v := ?_) (a' := ?_) #[true, true, true, false, false, false, false, false, false, false, false, false, false, false] rfl rfl (any_of HT_.out (by kernel_rfl)) (fun _ _ _ h => h) (Or.inl ⟨by rfl, ?_⟩) ?_ ?_
                      rotate_left
                      · intro w'
                        go_simp
                        with_reducible rfl
                      rotate_left
                      · simp only [Act.put, List.setIfInBounds_toArray, List.set_cons_zero, List.set_cons_succ, i64_w, i32_w]
                        rfl
                      refine pure_ (i := 3) (N := some 53) (v := ?_) (a' := ?_) #[true, true, true, true, false, false, false, false, false, false, false, false, false, false] rfl rfl (any_of HT_.out (by kernel_rfl)) (fun _ _ _ h => h) (Or.inl ⟨by rfl, ?_⟩) ?_ ?_
                      rotate_left
                      · intro w'
                        go_simp
                        with_reducible rfl
                      rotate_left
                      · simp only [Act.put, List.setIfInBounds_toArray, List.set_cons_zero, List.set_cons_succ, i64_w, i32_w]
                        rfl
                      refine pure_ (i := 4) (N := some 54) (v := undef) (a' := ?_) #[true, true, true, true, true, false, false, false, false, false, false, false, false, false] rfl rfl (any_of HT_.out (by kernel_rfl)) (fun _ _ _ h => h) (Or.inr ⟨by rfl, rfl⟩) ?_ ?_
                      rotate_left
                      · simp only [Act.put, List.setIfInBounds_toArray, List.set_cons_zero, List.set_cons_succ, i64_w, i32_w]
                        rfl
                      refine pure_ (i := 5) (N := some 55) (v := undef) (a' := ?_) #[true, true, true, true, true, true, false, false, false, false, false, false, false, false] rfl rfl (any_of HT_.out (by kernel_rfl)) (fun _ _ _ h => h) (Or.inr ⟨by rfl, rfl⟩) ?_ ?_
                      rotate_left
                      · simp only [Act.put, List.setIfInBounds_toArray, List.set_cons_zero, List.set_cons_succ, i64_w, i32_w]
                        rfl
                      refine pure_ (i := 6) (N := some 56) (v := undef) (a' := ?_) #[true, true, true, true, true, true, true, false, false, false, false, false, false, false] rfl rfl (any_of HT_.out (by kernel_rfl)) (fun _ _ _ h => h) (Or.inr ⟨by rfl, rfl⟩) ?_ ?_
                      rotate_left
                      · simp only [Act.put, List.setIfInBounds_toArray, List.set_cons_zero, List.set_cons_succ, i64_w, i32_w]
                        rfl
                      refine pure_ (i := 7) (N := some 57) (v := undef) (a' := ?_) #[true, true, true, true, true, true, true, true, false, false, false, false, false, false] rfl rfl (any_of HT_.out (by kernel_rfl)) (fun _ _ _ h => h) (Or.inr ⟨by rfl, rfl⟩) ?_ ?_
                      rotate_left
                      · simp only [Act.put, List.setIfInBounds_toArray, List.set_cons_zero, List.set_cons_succ, i64_w, i32_w]
                        rfl
                      refine pure_ (i := 8) (N := some 58) (v := undef) (a' := ?_) #[true, true, true, true, true, true, true, true, true, false, false, false, false, false] rfl rfl (any_of HT_.out (by kernel_rfl)) (fun _ _ _ h => h) (Or.inr ⟨by rfl, rfl⟩) ?_ ?_
                      rotate_left
                      · simp only [Act.put, List.setIfInBounds_toArray, List.set_cons_zero, List.set_cons_succ, i64_w, i32_w]
                        rfl
                      refine pure_ (i := 9) (N := some 59) (v := undef) (a' := ?_) #[true, true, true, true, true, true, true, true, true, true, false, false, false, false] rfl rfl (any_of HT_.out (by kernel_rfl)) (fun _ _ _ h => h) (Or.inr ⟨by rfl, rfl⟩) ?_ ?_
                      rotate_left
                      · simp only [Act.put, List.setIfInBounds_toArray, List.set_cons_zero, List.set_cons_succ, i64_w, i32_w]
                        rfl
                      refine pure_ (i := 10) (N := some 60) (v := undef) (a' := ?_) #[true, true, true, true, true, true, true, true, true, true, true, false, false, false] rfl rfl (any_of HT_.out (by kernel_rfl)) (fun _ _ _ h => h) (Or.inr ⟨by rfl, rfl⟩) ?_ ?_
                      rotate_left
                      · simp only [Act.put, List.setIfInBounds_toArray, List.set_cons_zero, List.set_cons_succ, i64_w, i32_w]
                        rfl
                      refine pure_ (i := 11) (N := some 61) (v := undef) (a' := ?_) #[true, true, true, true, true, true, true, true, true, true, true, true, false, false] rfl rfl (any_of HT_.out (by kernel_rfl)) (fun _ _ _ h => h) (Or.inr ⟨by rfl, rfl⟩) ?_ ?_
                      rotate_left
                      · simp only [Act.put, List.setIfInBounds_toArray, List.set_cons_zero, List.set_cons_succ, i64_w, i32_w]
                        rfl
                      refine pure_ (i := 12) (N := some 62) (v := undef) (a' := ?_) #[true, true, true, true, true, true, true, true, true, true, true, true, true, false] rfl rfl (any_of HT_.out (by kernel_rfl)) (fun _ _ _ h => h) (Or.inr ⟨by rfl, rfl⟩) ?_ ?_
                      rotate_left
                      · simp only [Act.put, List.setIfInBounds_toArray, List.set_cons_zero, List.set_cons_succ, i64_w, i32_w]
                        rfl
                      refine pure_ (i := 13) (N := some 63) (v := ?_) (a' := ?_) #[true, true, true, true, true, true, true, true, true, true, true, true, true, true] rfl rfl (any_of HT_.out (by kernel_rfl)) (fun _ _ _ h => h) (Or.inl ⟨by rfl, ?_⟩) ?_ ?_
                      rotate_left
                      · intro w'
                        go_simp
                        with_reducible rfl
                      rotate_left
                      · simp only [Act.put, List.setIfInBounds_toArray, List.set_cons_zero, List.set_cons_succ, i64_w, i32_w]
                        rfl
                      refine done_ (done_of HT_.out (by kernel_rfl)) ?_
                      have p0 : w70.cell? ⟨w6.heap.size, 0, none⟩ = some (.string x) := (blk_cell PK7.out 0).trans rfl
                      have p1 : w70.cell? ⟨w6.heap.size, 1, none⟩ = some (.string y) := (blk_cell PK7.out 1).trans rfl
                      have q0 : w70.cell? ⟨wa.heap.size, 0, none⟩ = some (.string a) := (blk_cell BK7.out 0).trans rfl
                      have q1 : w70.cell? ⟨wa.heap.size, 1, none⟩ = some (.string b) := (blk_cell BK7.out 1).trans rfl
                      have z0 : w70.frozen? ⟨wa.heap.size, 0, none⟩ = false := blk_frozen BK7.out 0
                      have z1 : w70.frozen? ⟨wa.heap.size, 1, none⟩ = false := blk_frozen BK7.out 1
                      go_wp2
                      go_roundg cn6
                      case measure => exact Nat.lt_of_lt_of_le HL6.out hcn
                      case rel => exact ⟨x, y, c, _, cn6, Nat.le_refl _, rfl, ⟨(RG7.out.kept (impl_MostPair.setc _ ⟨wa.heap.size, 0, none⟩ _) (fun e => by injection e with e; exact absurd e (Nat.ne_of_lt HZ.out)) (by simp)).kept (impl_MostPair.setc _ ⟨wa.heap.size, 1, none⟩ _) (fun e => by injection e with e; exact absurd e (Nat.ne_of_lt HZ.out)) (by simp)⟩, ⟨impl_MostPair.bk_set BK7.out⟩, ⟨below_set (below_set HB7.out (Nat.le_refl _)) (Nat.le_refl _)⟩, ⟨by simpa using HZ7.out⟩, ⟨UPD.out.1⟩, ⟨UPD.out.2⟩⟩
                    · by_cases hE : c = m
                      · obtain ⟨r, hr, hr1, hr2, hr3⟩ := impl_MostPair.cmp x y a b
                        have HR3 := Aside0.mk hr
                        subst hE
                        have hAb : decide (c < c) = false := decide_eq_false hA
                        by_cases hN : r < 0
                        · have hNb : decide (r < 0) = true := decide_eq_true hN
                          have UPD := Aside0.mk (impl_MostPair.upd_yes HXY.out.1 HXY.out.2 HC.out HSR.out HTP.out (.inr ⟨rfl, hr3.1 hN⟩))
                          clear hr hr1 hr2 hr3
                          go_wp2
                          refine start_ (n := 14) (S := fun w' => True) (ds := []) #[false, false, false, false, false, false, false, false, false, false, false, false, false, false] (by kernel_rfl) rfl rfl ⟨⟩ (fun hHeld => ?_); refine with_tabW impl_MostPair.tab12 impl_MostPair.bits12 (fun HT_ HW_ => ?_)
                          generalize (w6.alloc (Obj.cells #[Value.string x, Value.string y] 30)).drew = w70 at PK7 BK7 HB7 RG7 HZ7 ⊢
                          refine pure_ (i := 0) (N := some 50) (v := ?_) (a' := ?_) #[true, false, false, false, false, false, false, false, false, false, false, false, false, false] rfl rfl (any_of HT_.out (by kernel_rfl)) (fun _ _ _ h => h) (Or.inl ⟨by rfl, ?_⟩) ?_ ?_
                          rotate_left
                          · intro w'
                            go_simp
                            with_reducible rfl
                          rotate_left
                          · simp only [Act.put, List.setIfInBounds_toArray, List.set_cons_zero, List.set_cons_succ, i64_w, i32_w]
                            rfl
                          refine pure_ (i := 1) (N := some 51) (v := ?_) (a' := ?_) #[true, true, false, false, false, false, false, false, false, false, false, false, false, false] rfl rfl (any_of HT_.out (by kernel_rfl)) (fun _ _ _ h => h) (Or.inl ⟨by rfl, ?_⟩) ?_ ?_
                          rotate_left
                          · intro w'
                            go_simp
                            with_reducible rfl
                          rotate_left
                          · simp only [Act.put, List.setIfInBounds_toArray, List.set_cons_zero, List.set_cons_succ, i64_w, i32_w]
                            rfl
                          refine pure_ (i := 2) (N := some 52) (v := ?_) (a' := ?_) #[true, true, true, false, false, false, false, false, false, false, false, false, false, false] rfl rfl (any_of HT_.out (by kernel_rfl)) (fun _ _ _ h => h) (Or.inl ⟨by rfl, ?_⟩) ?_ ?_
                          rotate_left
                          · intro w'
                            go_simp
                            with_reducible rfl
                          rotate_left
                          · simp only [Act.put, List.setIfInBounds_toArray, List.set_cons_zero, List.set_cons_succ, i64_w, i32_w]
                            rfl
                          refine pure_ (i := 3) (N := some 53) (v := ?_) (a' := ?_) #[true, true, true, true, false, false, false, false, false, false, false, false, false, false] rfl rfl (any_of HT_.out (by kernel_rfl)) (fun _ _ _ h => h) (Or.inl ⟨by rfl, ?_⟩) ?_ ?_
                          rotate_left
                          · intro w'
                            go_simp
                            with_reducible rfl
                          rotate_left
                          · simp only [Act.put, List.setIfInBounds_toArray, List.set_cons_zero, List.set_cons_succ, i64_w, i32_w]
                            rfl
                          refine pure_ (i := 4) (N := some 54) (v := ?_) (a' := ?_) #[true, true, true, true, true, false, false, false, false, false, false, false, false, false] rfl rfl (any_of HT_.out (by kernel_rfl)) (fun _ _ _ h => h) (Or.inl ⟨by rfl, ?_⟩) ?_ ?_
                          rotate_left
                          · intro w'
                            go_simp
                            with_reducible rfl
                          rotate_left
                          · simp only [Act.put, List.setIfInBounds_toArray, List.set_cons_zero, List.set_cons_succ, i64_w, i32_w]
                            rfl
                          refine pure_ (i := 5) (N := some 55) (v := ?_) (a' := ?_) #[true, true, true, true, true, true, false, false, false, false, false, false, false, false] rfl rfl (any_of HT_.out (by kernel_rfl)) (fun _ _ _ h => h) (Or.inl ⟨by rfl, ?_⟩) ?_ ?_
                          rotate_left
                          · intro w'
                            go_simp
                            with_reducible rfl
                          rotate_left
                          · simp only [Act.put, List.setIfInBounds_toArray, List.set_cons_zero, List.set_cons_succ, i64_w, i32_w]
                            rfl
                          refine pure_ (i := 6) (N := some 56) (v := ?_) (a' := ?_) #[true, true, true, true, true, true, true, false, false, false, false, false, false, false] rfl rfl (any_of HT_.out (by kernel_rfl)) (fun _ _ _ h => h) (Or.inl ⟨by rfl, ?_⟩) ?_ ?_
                          rotate_left
                          · intro w'
                            go_simp
                            with_reducible rfl
                          rotate_left
                          · simp only [Act.put, List.setIfInBounds_toArray, List.set_cons_zero, List.set_cons_succ, i64_w, i32_w]
                            rfl
                          refine pure_ (i := 7) (N := some 57) (v := ?_) (a' := ?_) #[true, true, true, true, true, true, true, true, false, false, false, false, false, false] rfl rfl (any_of HT_.out (by kernel_rfl)) (fun _ _ _ h => h) (Or.inl ⟨by rfl, ?_⟩) ?_ ?_
                          rotate_left
                          · intro w'
                            go_simp
                            with_reducible rfl
                          rotate_left
                          · simp only [Act.put, List.setIfInBounds_toArray, List.set_cons_zero, List.set_cons_succ, i64_w, i32_w]
                            rfl
                          refine pure_ (i := 8) (N := some 58) (v := ?_) (a' := ?_) #[true, true, true, true, true, true, true, true, true, false, false, false, false, false] rfl rfl (any_of HT_.out (by kernel_rfl)) (fun _ _ _ h => h) (Or.inl ⟨by rfl, ?_⟩) ?_ ?_
                          rotate_left
                          · intro w'
                            go_simp
                            with_reducible rfl
                          rotate_left
                          · simp only [Act.put, List.setIfInBounds_toArray, List.set_cons_zero, List.set_cons_succ, i64_w, i32_w]
                            rfl
                          refine pure_ (i := 9) (N := some 59) (v := ?_) (a' := ?_) #[true, true, true, true, true, true, true, true, true, true, false, false, false, false] rfl rfl (any_of HT_.out (by kernel_rfl)) (fun _ _ _ h => h) (Or.inl ⟨by rfl, ?_⟩) ?_ ?_
                          rotate_left
                          · intro w'
                            go_simp
                            with_reducible rfl
                          rotate_left
                          · simp only [Act.put, List.setIfInBounds_toArray, List.set_cons_zero, List.set_cons_succ, i64_w, i32_w]
                            rfl
                          refine one_ (i := 10) (N := some 60) #[true, true, true, true, true, true, true, true, true, true, true, false, false, false] rfl rfl (one_of HT_.out (by kernel_rfl)) (by decide) (fun K hK => ?_)
                          refine goes_ Try.func11 (by kernel_rfl) rfl #[.slice (some ⟨w6.heap.size, 0, none⟩) ([x, y] : List ByteArray).length 2, .slice (some ⟨wa.heap.size, 0, none⟩) ([a, b] : List ByteArray).length 2] (by rfl) rfl rfl (by (try simp only [List.map_toArray, List.map_cons, List.map_nil]); first | done | rfl | (simp only [List.length_drop, List.length_take]; rfl)) ?_
                          refine (slices_Compare_string.calls 3 _ _ [x, y] _ _ [a, b] r w70 (impl_MostPair.pairC PK7.out) (Nat.le_refl _) (impl_MostPair.pairC BK7.out) (Nat.le_refl _) HR3.out).mono ?_
                          rintro e w' ⟨rfl, nd_, rfl⟩
                          refine ⟨_, rfl, ?_⟩
                          have PK8 : Aside0 ((w70.drewN nd_).heap[w6.heap.size]? = some (.cells #[.string x, .string y] 30 (0, 0))) := ⟨PK7.out⟩
                          have BK8 : Aside0 ((w70.drewN nd_).heap[wa.heap.size]? = some (.cells #[.string a, .string b] 30 (0, 0))) := ⟨BK7.out⟩
                          have HB8 : Aside0 (Below wa.heap.size wa (w70.drewN nd_)) := ⟨pw_below_drewN HB7.out nd_⟩
                          have RG8 : Aside0 ((w70.drewN nd_).ranges Try.prog 30 (plainElem Try.prog 3) w2.heap.size (wa.heap.size + 1) i D (fun z => left z && !z.sameKey (plit x y)) cn6) := ⟨RG7.out.kept (GDel.grownBy_below none (pw_below_drewN (Below.refl _ _) nd_)) (by simp) (by simp)⟩
                          have HZ8 : Aside0 (wa.heap.size + 1 < (w70.drewN nd_).heap.size) := ⟨HZ7.out⟩
                          clear PK7 BK7 HB7 RG7 HZ7
                          have PK7 := PK8
                          have BK7 := BK8
                          have HB7 := HB8
                          have RG7 := RG8
                          have HZ7 := HZ8
                          clear PK8 BK8 HB8 RG8 HZ8
                          refine hK.out _ _ trivial (fun hHeld => ?_)
                          clear hK K
                          refine norm_ (a' := ?_) ?_ ?_
                          rotate_left
                          · show Act.put _ (some 60) _ = _
                            simp only [Act.put, List.setIfInBounds_toArray, List.set_cons_zero, List.set_cons_succ, i64_w, i32_w]
                            rfl
                          generalize World.drewN _ nd_ = w71 at PK7 BK7 HB7 RG7 HZ7 ⊢
                          refine pure_ (i := 11) (N := some 61) (v := ?_) (a' := ?_) #[true, true, true, true, true, true, true, true, true, true, true, true, false, false] rfl rfl (any_of HT_.out (by kernel_rfl)) (fun _ _ _ h => h) (Or.inl ⟨by rfl, ?_⟩) ?_ ?_
                          rotate_left
                          · intro w'
                            go_simp
                            with_reducible rfl
                          rotate_left
                          · simp only [Act.put, List.setIfInBounds_toArray, List.set_cons_zero, List.set_cons_succ, i64_w, i32_w]
                            rfl
                          refine pure_ (i := 12) (N := some 62) (v := ?_) (a' := ?_) #[true, true, true, true, true, true, true, true, true, true, true, true, true, false] rfl rfl (any_of HT_.out (by kernel_rfl)) (fun _ _ _ h => h) (Or.inl ⟨by rfl, ?_⟩) ?_ ?_
                          rotate_left
                          · intro w'
                            go_simp
                            with_reducible rfl
                          rotate_left
                          · simp only [Act.put, List.setIfInBounds_toArray, List.set_cons_zero, List.set_cons_succ, i64_w, i32_w]
                            rfl
                          refine pure_ (i := 13) (N := some 63) (v := ?_) (a' := ?_) #[true, true, true, true, true, true, true, true, true, true, true, true, true, true] rfl rfl (any_of HT_.out (by kernel_rfl)) (fun _ _ _ h => h) (Or.inl ⟨by rfl, ?_⟩) ?_ ?_
                          rotate_left
                          · intro w'
                            go_simp
                            with_reducible rfl
                          rotate_left
                          · simp only [Act.put, List.setIfInBounds_toArray, List.set_cons_zero, List.set_cons_succ, i64_w, i32_w]
                            rfl
                          refine done_ (done_of HT_.out (by kernel_rfl)) ?_
                          have p0 : w71.cell? ⟨w6.heap.size, 0, none⟩ = some (.string x) := (blk_cell PK7.out 0).trans rfl
                          have p1 : w71.cell? ⟨w6.heap.size, 1, none⟩ = some (.string y) := (blk_cell PK7.out 1).trans rfl
                          have q0 : w71.cell? ⟨wa.heap.size, 0, none⟩ = some (.string a) := (blk_cell BK7.out 0).trans rfl
                          have q1 : w71.cell? ⟨wa.heap.size, 1, none⟩ = some (.string b) := (blk_cell BK7.out 1).trans rfl
                          have z0 : w71.frozen? ⟨wa.heap.size, 0, none⟩ = false := blk_frozen BK7.out 0
                          have z1 : w71.frozen? ⟨wa.heap.size, 1, none⟩ = false := blk_frozen BK7.out 1
                          go_wp2
                          go_roundg cn6
                          case measure => exact Nat.lt_of_lt_of_le HL6.out hcn
                          case rel => exact ⟨x, y, c, _, cn6, Nat.le_refl _, rfl, ⟨(RG7.out.kept (impl_MostPair.setc _ ⟨wa.heap.size, 0, none⟩ _) (fun e => by injection e with e; exact absurd e (Nat.ne_of_lt HZ.out)) (by simp)).kept (impl_MostPair.setc _ ⟨wa.heap.size, 1, none⟩ _) (fun e => by injection e with e; exact absurd e (Nat.ne_of_lt HZ.out)) (by simp)⟩, ⟨impl_MostPair.bk_set BK7.out⟩, ⟨below_set (below_set HB7.out (Nat.le_refl _)) (Nat.le_refl _)⟩, ⟨by simpa using HZ7.out⟩, ⟨UPD.out.1⟩, ⟨UPD.out.2⟩⟩
                        · have hNb : decide (r < 0) = false := decide_eq_false hN
                          have UPN := Aside0.mk (impl_MostPair.upd_no HXY.out.1 HXY.out.2 HC.out HTP.out (fun h => h.elim (fun h => hA h) (fun h => hN (hr3.2 h.2))))
                          clear hr hr1 hr2 hr3
                          go_wp2
                          refine start_ (n := 14) (S := fun w' => True) (ds := []) #[false, false, false, false, false, false, false, false, false, false, false, false, false, false] (by kernel_rfl) rfl rfl ⟨⟩ (fun hHeld => ?_); refine with_tabW impl_MostPair.tab12 impl_MostPair.bits12 (fun HT_ HW_ => ?_)
                          generalize (w6.alloc (Obj.cells #[Value.string x, Value.string y] 30)).drew = w70 at PK7 BK7 HB7 RG7 HZ7 ⊢
                          refine pure_ (i := 0) (N := some 50) (v := ?_) (a' := ?_) #[true, false, false, false, false, false, false, false, false, false, false, false, false, false] rfl rfl (any_of HT_.out (by kernel_rfl)) (fun _ _ _ h => h) (Or.inl ⟨by rfl, ?_⟩) ?_ ?_
                          rotate_left
                          · intro w'
                            go_simp
                            with_reducible rfl
                          rotate_left
                          · simp only [Act.put, List.setIfInBounds_toArray, List.set_cons_zero, List.set_cons_succ, i64_w, i32_w]
                            rfl
                          refine pure_ (i := 1) (N := some 51) (v := ?_) (a' := ?_) #[true, true, false, false, false, false, false, false, false, false, false, false, false, false] rfl rfl (any_of HT_.out (by kernel_rfl)) (fun _ _ _ h => h) (Or.inl ⟨by rfl, ?_⟩) ?_ ?_
                          rotate_left
                          · intro w'
                            go_simp
                            with_reducible rfl
                          rotate_left
                          · simp only [Act.put, List.setIfInBounds_toArray, List.set_cons_zero, List.set_cons_succ, i64_w, i32_w]
                            rfl
                          refine pure_ (i := 2) (N := some 52) (v := ?_) (a' := ?_) #[true, true, true, false, false, false, false, false, false, false, false, false, false, false] rfl rfl (any_of HT_.out (by kernel_rfl)) (fun _ _ _ h => h) (Or.inl ⟨by rfl, ?_⟩) ?_ ?_
                          rotate_left
                          · intro w'
                            go_simp
                            with_reducible rfl
                          rotate_left
                          · simp only [Act.put, List.setIfInBounds_toArray, List.set_cons_zero, List.set_cons_succ, i64_w, i32_w]
                            rfl
                          refine pure_ (i := 3) (N := some 53) (v := ?_) (a' := ?_) #[true, true, true, true, false, false, false, false, false, false, false, false, false, false] rfl rfl (any_of HT_.out (by kernel_rfl)) (fun _ _ _ h => h) (Or.inl ⟨by rfl, ?_⟩) ?_ ?_
                          rotate_left
                          · intro w'
                            go_simp
                            with_reducible rfl
                          rotate_left
                          · simp only [Act.put, List.setIfInBounds_toArray, List.set_cons_zero, List.set_cons_succ, i64_w, i32_w]
                            rfl
                          refine pure_ (i := 4) (N := some 54) (v := ?_) (a' := ?_) #[true, true, true, true, true, false, false, false, false, false, false, false, false, false] rfl rfl (any_of HT_.out (by kernel_rfl)) (fun _ _ _ h => h) (Or.inl ⟨by rfl, ?_⟩) ?_ ?_
                          rotate_left
                          · intro w'
                            go_simp
                            with_reducible rfl
                          rotate_left
                          · simp only [Act.put, List.setIfInBounds_toArray, List.set_cons_zero, List.set_cons_succ, i64_w, i32_w]
                            rfl
                          refine pure_ (i := 5) (N := some 55) (v := ?_) (a' := ?_) #[true, true, true, true, true, true, false, false, false, false, false, false, false, false] rfl rfl (any_of HT_.out (by kernel_rfl)) (fun _ _ _ h => h) (Or.inl ⟨by rfl, ?_⟩) ?_ ?_
                          rotate_left
                          · intro w'
                            go_simp
                            with_reducible rfl
                          rotate_left
                          · simp only [Act.put, List.setIfInBounds_toArray, List.set_cons_zero, List.set_cons_succ, i64_w, i32_w]
                            rfl
                          refine pure_ (i := 6) (N := some 56) (v := ?_) (a' := ?_) #[true, true, true, true, true, true, true, false, false, false, false, false, false, false] rfl rfl (any_of HT_.out (by kernel_rfl)) (fun _ _ _ h => h) (Or.inl ⟨by rfl, ?_⟩) ?_ ?_
                          rotate_left
                          · intro w'
                            go_simp
                            with_reducible rfl
                          rotate_left
                          · simp only [Act.put, List.setIfInBounds_toArray, List.set_cons_zero, List.set_cons_succ, i64_w, i32_w]
                            rfl
                          refine pure_ (i := 7) (N := some 57) (v := ?_) (a' := ?_) #[true, true, true, true, true, true, true, true, false, false, false, false, false, false] rfl rfl (any_of HT_.out (by kernel_rfl)) (fun _ _ _ h => h) (Or.inl ⟨by rfl, ?_⟩) ?_ ?_
                          rotate_left
                          · intro w'
                            go_simp
                            with_reducible rfl
                          rotate_left
                          · simp only [Act.put, List.setIfInBounds_toArray, List.set_cons_zero, List.set_cons_succ, i64_w, i32_w]
                            rfl
                          refine pure_ (i := 8) (N := some 58) (v := ?_) (a' := ?_) #[true, true, true, true, true, true, true, true, true, false, false, false, false, false] rfl rfl (any_of HT_.out (by kernel_rfl)) (fun _ _ _ h => h) (Or.inl ⟨by rfl, ?_⟩) ?_ ?_
                          rotate_left
                          · intro w'
                            go_simp
                            with_reducible rfl
                          rotate_left
                          · simp only [Act.put, List.setIfInBounds_toArray, List.set_cons_zero, List.set_cons_succ, i64_w, i32_w]
                            rfl
                          refine pure_ (i := 9) (N := some 59) (v := ?_) (a' := ?_) #[true, true, true, true, true, true, true, true, true, true, false, false, false, false] rfl rfl (any_of HT_.out (by kernel_rfl)) (fun _ _ _ h => h) (Or.inl ⟨by rfl, ?_⟩) ?_ ?_
                          rotate_left
                          · intro w'
                            go_simp
                            with_reducible rfl
                          rotate_left
                          · simp only [Act.put, List.setIfInBounds_toArray, List.set_cons_zero, List.set_cons_succ, i64_w, i32_w]
                            rfl
                          refine one_ (i := 10) (N := some 60) #[true, true, true, true, true, true, true, true, true, true, true, false, false, false] rfl rfl (one_of HT_.out (by kernel_rfl)) (by decide) (fun K hK => ?_)
                          refine goes_ Try.func11 (by kernel_rfl) rfl #[.slice (some ⟨w6.heap.size, 0, none⟩) ([x, y] : List ByteArray).length 2, .slice (some ⟨wa.heap.size, 0, none⟩) ([a, b] : List ByteArray).length 2] (by rfl) rfl rfl (by (try simp only [List.map_toArray, List.map_cons, List.map_nil]); first | done | rfl | (simp only [List.length_drop, List.length_take]; rfl)) ?_
                          refine (slices_Compare_string.calls 3 _ _ [x, y] _ _ [a, b] r w70 (impl_MostPair.pairC PK7.out) (Nat.le_refl _) (impl_MostPair.pairC BK7.out) (Nat.le_refl _) HR3.out).mono ?_
                          rintro e w' ⟨rfl, nd_, rfl⟩
                          refine ⟨_, rfl, ?_⟩
                          have PK8 : Aside0 ((w70.drewN nd_).heap[w6.heap.size]? = some (.cells #[.string x, .string y] 30 (0, 0))) := ⟨PK7.out⟩
                          have BK8 : Aside0 ((w70.drewN nd_).heap[wa.heap.size]? = some (.cells #[.string a, .string b] 30 (0, 0))) := ⟨BK7.out⟩
                          have HB8 : Aside0 (Below wa.heap.size wa (w70.drewN nd_)) := ⟨pw_below_drewN HB7.out nd_⟩
                          have RG8 : Aside0 ((w70.drewN nd_).ranges Try.prog 30 (plainElem Try.prog 3) w2.heap.size (wa.heap.size + 1) i D (fun z => left z && !z.sameKey (plit x y)) cn6) := ⟨RG7.out.kept (GDel.grownBy_below none (pw_below_drewN (Below.refl _ _) nd_)) (by simp) (by simp)⟩
                          have HZ8 : Aside0 (wa.heap.size + 1 < (w70.drewN nd_).heap.size) := ⟨HZ7.out⟩
                          clear PK7 BK7 HB7 RG7 HZ7
                          have PK7 := PK8
                          have BK7 := BK8
                          have HB7 := HB8
                          have RG7 := RG8
                          have HZ7 := HZ8
                          clear PK8 BK8 HB8 RG8 HZ8
                          refine hK.out _ _ trivial (fun hHeld => ?_)
                          clear hK K
                          refine norm_ (a' := ?_) ?_ ?_
                          rotate_left
                          · show Act.put _ (some 60) _ = _
                            simp only [Act.put, List.setIfInBounds_toArray, List.set_cons_zero, List.set_cons_succ, i64_w, i32_w]
                            rfl
                          generalize World.drewN _ nd_ = w71 at PK7 BK7 HB7 RG7 HZ7 ⊢
                          refine pure_ (i := 11) (N := some 61) (v := ?_) (a' := ?_) #[true, true, true, true, true, true, true, true, true, true, true, true, false, false] rfl rfl (any_of HT_.out (by kernel_rfl)) (fun _ _ _ h => h) (Or.inl ⟨by rfl, ?_⟩) ?_ ?_
                          rotate_left
                          · intro w'
                            go_simp
                            with_reducible rfl
                          rotate_left
                          · simp only [Act.put, List.setIfInBounds_toArray, List.set_cons_zero, List.set_cons_succ, i64_w, i32_w]
                            rfl
                          refine pure_ (i := 12) (N := some 62) (v := ?_) (a' := ?_) #[true, true, true, true, true, true, true, true, true, true, true, true, true, false] rfl rfl (any_of HT_.out (by kernel_rfl)) (fun _ _ _ h => h) (Or.inl ⟨by rfl, ?_⟩) ?_ ?_
                          rotate_left
                          · intro w'
                            go_simp
                            with_reducible rfl
                          rotate_left
                          · simp only [Act.put, List.setIfInBounds_toArray, List.set_cons_zero, List.set_cons_succ, i64_w, i32_w]
                            rfl
                          refine pure_ (i := 13) (N := some 63) (v := ?_) (a' := ?_) #[true, true, true, true, true, true, true, true, true, true, true, true, true, true] rfl rfl (any_of HT_.out (by kernel_rfl)) (fun _ _ _ h => h) (Or.inl ⟨by rfl, ?_⟩) ?_ ?_
                          rotate_left
                          · intro w'
                            go_simp
                            with_reducible rfl
                          rotate_left
                          · simp only [Act.put, List.setIfInBounds_toArray, List.set_cons_zero, List.set_cons_succ, i64_w, i32_w]
                            rfl
                          refine done_ (done_of HT_.out (by kernel_rfl)) ?_
                          go_wp2
                          go_roundg cn6
                          case measure => exact Nat.lt_of_lt_of_le HL6.out hcn
                          case rel => exact ⟨a, b, _, _, cn6, Nat.le_refl _, rfl, RG7, BK7, HB7, HZ7, HSR, UPN⟩
                      · have hAb : decide (m < c) = false := decide_eq_false hA
                        have hEb : (c == m) = false := beq_eq_false_iff_ne.2 hE
                        have UPN := Aside0.mk (impl_MostPair.upd_no HXY.out.1 HXY.out.2 HC.out HTP.out (fun h => h.elim (fun h => hA h) (fun h => hE h.1)))
                        go_wp2
                        refine start_ (n := 14) (S := fun w' => True) (ds := []) #[false, false, false, false, false, false, false, false, false, false, false, false, false, false] (by kernel_rfl) rfl rfl ⟨⟩ (fun hHeld => ?_); refine with_tabW impl_MostPair.tab12 impl_MostPair.bits12 (fun HT_ HW_ => ?_)
                        generalize (w6.alloc (Obj.cells #[Value.string x, Value.string y] 30)).drew = w70 at PK7 BK7 HB7 RG7 HZ7 ⊢
                        refine pure_ (i := 0) (N := some 50) (v := ?_) (a' := ?_) #[true, false, false, false, false, false, false, false, false, false, false, false, false, false] rfl rfl (any_of HT_.out (by kernel_rfl)) (fun _ _ _ h => h) (Or.inl ⟨by rfl, ?_⟩) ?_ ?_
                        rotate_left
                        · intro w'
                          go_simp
                          with_reducible rfl
                        rotate_left
                        · simp only [Act.put, List.setIfInBounds_toArray, List.set_cons_zero, List.set_cons_succ, i64_w, i32_w]
                          rfl
                        refine pure_ (i := 1) (N := some 51) (v := ?_) (a' := ?_) #[true, true, false, false, false, false, false, false, false, false, false, false, false, false] rfl rfl (any_of HT_.out (by kernel_rfl)) (fun _ _ _ h => h) (Or.inl ⟨by rfl, ?_⟩) ?_ ?_
                        rotate_left
                        · intro w'
                          go_simp
                          with_reducible rfl
                        rotate_left
                        · simp only [Act.put, List.setIfInBounds_toArray, List.set_cons_zero, List.set_cons_succ, i64_w, i32_w]
                          rfl
                        refine pure_ (i := 2) (N := some 52) (v := ?_) (a' := ?_) #[true, true, true, false, false, false, false, false, false, false, false, false, false, false] rfl rfl (any_of HT_.out (by kernel_rfl)) (fun _ _ _ h => h) (Or.inl ⟨by rfl, ?_⟩) ?_ ?_
                        rotate_left
                        · intro w'
                          go_simp
                          with_reducible rfl
                        rotate_left
                        · simp only [Act.put, List.setIfInBounds_toArray, List.set_cons_zero, List.set_cons_succ, i64_w, i32_w]
                          rfl
                        refine pure_ (i := 3) (N := some 53) (v := ?_) (a' := ?_) #[true, true, true, true, false, false, false, false, false, false, false, false, false, false] rfl rfl (any_of HT_.out (by kernel_rfl)) (fun _ _ _ h => h) (Or.inl ⟨by rfl, ?_⟩) ?_ ?_
                        rotate_left
                        · intro w'
                          go_simp
                          with_reducible rfl
                        rotate_left
                        · simp only [Act.put, List.setIfInBounds_toArray, List.set_cons_zero, List.set_cons_succ, i64_w, i32_w]
                          rfl
                        refine pure_ (i := 4) (N := some 54) (v := ?_) (a' := ?_) #[true, true, true, true, true, false, false, false, false, false, false, false, false, false] rfl rfl (any_of HT_.out (by kernel_rfl)) (fun _ _ _ h => h) (Or.inl ⟨by rfl, ?_⟩) ?_ ?_
                        rotate_left
                        · intro w'
                          go_simp
                          with_reducible rfl
                        rotate_left
                        · simp only [Act.put, List.setIfInBounds_toArray, List.set_cons_zero, List.set_cons_succ, i64_w, i32_w]
                          rfl
                        refine pure_ (i := 5) (N := some 55) (v := ?_) (a' := ?_) #[true, true, true, true, true, true, false, false, false, false, false, false, false, false] rfl rfl (any_of HT_.out (by kernel_rfl)) (fun _ _ _ h => h) (Or.inl ⟨by rfl, ?_⟩) ?_ ?_
                        rotate_left
                        · intro w'
                          go_simp
                          with_reducible rfl
                        rotate_left
                        · simp only [Act.put, List.setIfInBounds_toArray, List.set_cons_zero, List.set_cons_succ, i64_w, i32_w]
                          rfl
                        refine pure_ (i := 6) (N := some 56) (v := ?_) (a' := ?_) #[true, true, true, true, true, true, true, false, false, false, false, false, false, false] rfl rfl (any_of HT_.out (by kernel_rfl)) (fun _ _ _ h => h) (Or.inl ⟨by rfl, ?_⟩) ?_ ?_
                        rotate_left
                        · intro w'
                          go_simp
                          with_reducible rfl
                        rotate_left
                        · simp only [Act.put, List.setIfInBounds_toArray, List.set_cons_zero, List.set_cons_succ, i64_w, i32_w]
                          rfl
                        refine pure_ (i := 7) (N := some 57) (v := ?_) (a' := ?_) #[true, true, true, true, true, true, true, true, false, false, false, false, false, false] rfl rfl (any_of HT_.out (by kernel_rfl)) (fun _ _ _ h => h) (Or.inl ⟨by rfl, ?_⟩) ?_ ?_
                        rotate_left
                        · intro w'
                          go_simp
                          with_reducible rfl
                        rotate_left
                        · simp only [Act.put, List.setIfInBounds_toArray, List.set_cons_zero, List.set_cons_succ, i64_w, i32_w]
                          rfl
                        refine pure_ (i := 8) (N := some 58) (v := undef) (a' := ?_) #[true, true, true, true, true, true, true, true, true, false, false, false, false, false] rfl rfl (any_of HT_.out (by kernel_rfl)) (fun _ _ _ h => h) (Or.inr ⟨by rfl, rfl⟩) ?_ ?_
                        rotate_left
                        · simp only [Act.put, List.setIfInBounds_toArray, List.set_cons_zero, List.set_cons_succ, i64_w, i32_w]
                          rfl
                        refine pure_ (i := 9) (N := some 59) (v := undef) (a' := ?_) #[true, true, true, true, true, true, true, true, true, true, false, false, false, false] rfl rfl (any_of HT_.out (by kernel_rfl)) (fun _ _ _ h => h) (Or.inr ⟨by rfl, rfl⟩) ?_ ?_
                        rotate_left
                        · simp only [Act.put, List.setIfInBounds_toArray, List.set_cons_zero, List.set_cons_succ, i64_w, i32_w]
                          rfl
                        refine pure_ (i := 10) (N := some 60) (v := undef) (a' := ?_) #[true, true, true, true, true, true, true, true, true, true, true, false, false, false] rfl rfl (any_of HT_.out (by kernel_rfl)) (fun _ _ _ h => h) (Or.inr ⟨by rfl, rfl⟩) ?_ ?_
                        rotate_left
                        · simp only [Act.put, List.setIfInBounds_toArray, List.set_cons_zero, List.set_cons_succ, i64_w, i32_w]
                          rfl
                        refine pure_ (i := 11) (N := some 61) (v := undef) (a' := ?_) #[true, true, true, true, true, true, true, true, true, true, true, true, false, false] rfl rfl (any_of HT_.out (by kernel_rfl)) (fun _ _ _ h => h) (Or.inr ⟨by rfl, rfl⟩) ?_ ?_
                        rotate_left
                        · simp only [Act.put, List.setIfInBounds_toArray, List.set_cons_zero, List.set_cons_succ, i64_w, i32_w]
                          rfl
                        refine pure_ (i := 12) (N := some 62) (v := ?_) (a' := ?_) #[true, true, true, true, true, true, true, true, true, true, true, true, true, false] rfl rfl (any_of HT_.out (by kernel_rfl)) (fun _ _ _ h => h) (Or.inl ⟨by rfl, ?_⟩) ?_ ?_
                        rotate_left
                        · intro w'
                          go_simp
                          with_reducible rfl
                        rotate_left
                        · simp only [Act.put, List.setIfInBounds_toArray, List.set_cons_zero, List.set_cons_succ, i64_w, i32_w]
                          rfl
                        refine pure_ (i := 13) (N := some 63) (v := ?_) (a' := ?_) #[true, true, true, true, true, true, true, true, true, true, true, true, true, true] rfl rfl (any_of HT_.out (by kernel_rfl)) (fun _ _ _ h => h) (Or.inl ⟨by rfl, ?_⟩) ?_ ?_
                        rotate_left
                        · intro w'
                          go_simp
                          with_reducible rfl
                        rotate_left
                        · simp only [Act.put, List.setIfInBounds_toArray, List.set_cons_zero, List.set_cons_succ, i64_w, i32_w]
                          rfl
                        refine done_ (done_of HT_.out (by kernel_rfl)) ?_
                        go_wp2
                        go_roundg cn6
                        case measure => exact Nat.lt_of_lt_of_le HL6.out hcn
                        case rel => exact ⟨a, b, _, _, cn6, Nat.le_refl _, rfl, RG7, BK7, HB7, HZ7, HSR, UPN⟩
          · cases h
        · cases h


end Go.Proofs.Ytidlgfgadiknfaa.Q
