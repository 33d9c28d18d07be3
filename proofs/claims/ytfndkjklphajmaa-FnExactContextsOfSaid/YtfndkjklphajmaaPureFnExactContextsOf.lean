/- For all texts and a gloss, the program's ContextsOf returns what the reference's ContextsOf returns, leaves the list alone, and hands back memory of its own. No condition. -/
import Derived.Test.YtfndkjklphajmaaQImplAreTokens
import Derived.Test.YtfndkjklphajmaaQImplContextsOf
import Derived.Test.YtfndkjklphajmaaQImplDistinctString
import Derived.Test.YtfndkjklphajmaaQImplHasOnly
import Derived.Test.YtfndkjklphajmaaQImplIsGloss
import Derived.Test.YtfndkjklphajmaaQImplIsWordOf
import Derived.Test.YtfndkjklphajmaaQImplPlacesOf
import Derived.Test.YtfndkjklphajmaaQImplWithin
import Derived.Test.YtfndkjklphajmaaQLawsEqStringS
import Derived.Test.YtfndkjklphajmaaQLawsFnExactContextsOf
import Derived.Test.YtfndkjklphajmaaQLawsHeldStringS
import Derived.Test.YtfndkjklphajmaaQLawsMarkStringS
import Derived.Test.YtfndkjklphajmaaQLawsMarkText
import Derived.Test.YtfndkjklphajmaaQLawsSzStringS
import Derived.Test.YtfndkjklphajmaaQLawsToStringS
import Derived.Test.YtfndkjklphajmaaQSlicesCloneString
import Derived.Test.YtfndkjklphajmaaQSpecContextsOf
import Derived.Test.YtfndkjklphajmaaQSpecCtAsked
import Derived.Test.YtfndkjklphajmaaQSpecCtGood
import Derived.Test.YtfndkjklphajmaaQSpecCtPut
import Derived.Test.YtfndkjklphajmaaQSpecEnGloss
import Derived.Test.YtfndkjklphajmaaQSpecL1In
import Derived.Test.YtfndkjklphajmaaQStringsIndexByte
import Derived.Test.YtfndkjklphajmaaQ0
import Derived.Test.YtfndkjklphajmaaWWords
import Derived.Lib.SlicesCompact
import Derived.Sort.Walk0
import Derived.Test.YtfndkjklphajmaaGStr
import Derived.Lib.Bytealg
set_option linter.unusedVariables false
set_option linter.unusedSimpArgs false
namespace Go.Proofs.Ytfndkjklphajmaa.Pure
open Go.RowKit Go.Proofs.Ytfndkjklphajmaa.Q Go.Proofs.YtfndkjklphajmaaW.PrintLast Go.Proofs.YtfndkjklphajmaaW.PrintWords
theorem Ev.succ {α : Type} {g : Nat → Option α} {r : α} (h : Ev (fun k => g (k + 1)) r) : Ev g r := Ev.step (fun _ => rfl) h
theorem Ev.k {α : Type} {g : Nat → Option α} {o : Option α} {r : α} (hg : ∀ k, g k = o) (h : o = some r) : Ev g r := ⟨0, fun k _ => (hg k).trans h⟩
theorem Ev.eq {α : Type} {g : Nat → Option α} {r r' : α} (h : Ev g r) (e : r = r') : Ev g r' := e ▸ h
/-- From round i up to round n. -/
theorem Ev.upto {β : Type} {L : Nat → Nat → Option β} {r : β} {n : Nat} (hend : Ev (fun k => L k n) r)
    (hstep : ∀ j, j < n → Ev (fun k => L k (j + 1)) r → Ev (fun k => L k j) r) : ∀ i, i ≤ n → Ev (fun k => L k i) r := by
  intro i hi
  obtain ⟨d, hd⟩ : ∃ d, n = i + d := ⟨n - i, by omega⟩
  induction d generalizing i with
  | zero => simp at hd; subst hd; exact hend
  | succ d ih => exact hstep i (by omega) (ih (i + 1) (by omega) (by omega))
/-- A loop that ends early where P fails. -/
theorem Ev.all {β : Type} {L : Nat → Nat → Option β} {P : Nat → Bool} {n : Nat} {a b : β} (hend : Ev (fun k => L k n) a)
    (hyes : ∀ j r, j < n → P j = true → Ev (fun k => L k (j + 1)) r → Ev (fun k => L k j) r) (hno : ∀ j, j < n → P j = false → Ev (fun k => L k j) b) :
    ∀ i, i ≤ n → Ev (fun k => L k i) (if (List.range' i (n - i)).all P then a else b) := by
  intro i hi
  obtain ⟨d, hd⟩ : ∃ d, n = i + d := ⟨n - i, by omega⟩
  induction d generalizing i with
  | zero => simp at hd; subst hd; simpa using hend
  | succ d ih =>
    have h1 : n - i = (n - (i + 1)) + 1 := by omega
    rw [h1, List.range'_succ]
    simp only [List.all_cons]
    rcases Bool.eq_false_or_eq_true (P i) with hP | hP
    · simp only [hP, Bool.true_and]
      exact hyes i _ (by omega) hP (ih (i + 1) (by omega) (by omega))
    · simpa [hP] using hno i (by omega) hP
theorem Ev.all0 {β : Type} {L : Nat → Nat → Option β} {P : Nat → Bool} {n : Nat} {a b : β} (hend : Ev (fun k => L k n) a)
    (hyes : ∀ j r, j < n → P j = true → Ev (fun k => L k (j + 1)) r → Ev (fun k => L k j) r) (hno : ∀ j, j < n → P j = false → Ev (fun k => L k j) b) :
    Ev (fun k => L k 0) (if (List.range n).all P then a else b) := by
  have := Ev.all hend hyes hno 0 (Nat.zero_le _)
  rwa [Nat.sub_zero, ← List.range_eq_range'] at this

theorem wrap_id {x : Int} (h0 : -9223372036854775808 ≤ x) (h1 : x ≤ 9223372036854775807) : wrap64 x = x := by
  unfold wrap64
  omega
theorem wrap_succ {n : Nat} (h : n < 4611686018427387904) : wrap64 ((n : Int) + 1) = ((n + 1 : Nat) : Int) := by
  rw [wrap_id (by omega) (by omega)]
  omega
theorem wrap_pred {n : Nat} (h0 : 0 < n) (h : n < 4611686018427387904) : wrap64 ((n : Int) - 1) = ((n - 1 : Nat) : Int) := by
  rw [wrap_id (by omega) (by omega)]
  omega
theorem nat_nonneg (n : Nat) : (0 ≤ (n : Int)) = True := eq_true (Int.natCast_nonneg n)
/-- A copy, element by element, into a row that was made. -/
theorem Ev.copy {α β : Type} (f : α → β) (l : List α) (za : α) (zb : β) (L : Nat → List β → Int → Option (List β))
    (hstep : ∀ (j : Nat) (s r : List β), j < l.length → s.length = l.length → Ev (fun k => L k (s.set j (f (l.getD j za))) ((j + 1 : Nat) : Int)) r → Ev (fun k => L k s (j : Int)) r)
    (hend : ∀ s : List β, s.length = l.length → Ev (fun k => L k s (l.length : Int)) s) : Ev (fun k => L k (List.replicate l.length zb) 0) (l.map f) := by
  have key := Ev.upto (L := fun k j => L k ((l.map f).take j ++ List.replicate (l.length - j) zb) (j : Int)) (r := l.map f) (n := l.length)
    (by
      have h := hend ((l.map f).take l.length ++ List.replicate (l.length - l.length) zb) (by simp)
      refine Ev.eq h ?_
      rw [Nat.sub_self, List.replicate_zero, List.append_nil, List.take_of_length_le (by simp)])
    (by
      intro j hj h
      have hlen : ((l.map f).take j ++ List.replicate (l.length - j) zb).length = l.length := by simp; omega
      refine hstep j _ _ hj hlen ?_
      have e : ((l.map f).take j ++ List.replicate (l.length - j) zb).set j (f (l.getD j za)) = (l.map f).take (j + 1) ++ List.replicate (l.length - (j + 1)) zb := by
        have e1 : l.length - j = (l.length - (j + 1)) + 1 := by omega
        rw [e1, List.replicate_succ, List.set_append_right _ _ (by simp; omega)]
        have e2 : j - ((l.map f).take j).length = 0 := by simp; omega
        rw [e2, List.set_cons_zero, List.take_succ_eq_append_getElem (by simpa using hj)]
        simp [List.getD_eq_getElem?_getD, List.getElem?_eq_getElem hj]
      rw [e]
      exact h)
    0 (Nat.zero_le _)
  simpa using key
/-- What is left of a size, or that it was passed. -/
theorem Ev.sz {L : Nat → Nat → Int → Option Int} {n : Nat}
    (hstep : ∀ (j : Nat) (a : Int), j < n → 0 ≤ a → a ≤ 1048576 → (∃ a', 0 ≤ a' ∧ a' ≤ a ∧ ∀ r, Ev (fun k => L k (j + 1) a') r → Ev (fun k => L k j a) r) ∨ Ev (fun k => L k j a) (-1))
    (hend : ∀ a : Int, 0 ≤ a → a ≤ 1048576 → Ev (fun k => L k n a) a) :
    ∀ (j : Nat), j ≤ n → ∀ a : Int, 0 ≤ a → a ≤ 1048576 → ∃ r, r ≤ a ∧ Ev (fun k => L k j a) r := by
  intro j hj
  obtain ⟨d, hd⟩ : ∃ d, n = j + d := ⟨n - j, by omega⟩
  induction d generalizing j with
  | zero => simp at hd; subst hd; exact fun a h0 h1 => ⟨a, Int.le_refl _, hend a h0 h1⟩
  | succ d ih =>
    intro a h0 h1
    rcases hstep j a (by omega) h0 h1 with ⟨a', h2, h3, h4⟩ | h5
    · obtain ⟨r, h6, h7⟩ := ih (j + 1) (by omega) (by omega) a' h2 (by omega)
      exact ⟨r, by omega, h4 r h7⟩
    · exact ⟨-1, by omega, h5⟩
/-- The marks of a row: m a x is x marked from a on, c x how many marks that takes. -/
def markAll {β : Type} (m : Int → β → β) (c : β → Nat) : Int → List β → List β
  | _, [] => []
  | a, x :: r => m a x :: markAll m c (a + c x) r
def markEnd {β : Type} (c : β → Nat) : Int → List β → Int
  | a, [] => a
  | a, x :: r => markEnd c (a + c x) r
theorem markEnd_ge {β : Type} (c : β → Nat) : ∀ (l : List β) (a : Int), a ≤ markEnd c a l
  | [], a => Int.le_refl _
  | x :: r, a => by have := markEnd_ge c r (a + c x); simp only [markEnd]; omega
theorem markAll_length {β : Type} (m : Int → β → β) (c : β → Nat) : ∀ (l : List β) (a : Int), (markAll m c a l).length = l.length
  | [], _ => rfl
  | x :: r, a => by simp [markAll, markAll_length m c r]
theorem markEnd_const {β : Type} (n : Nat) : ∀ (l : List β) (a : Int), markEnd (fun _ => n) a l = a + n * l.length
  | [], a => by simp [markEnd]
  | x :: r, a => by
    simp only [markEnd, markEnd_const n r, List.length_cons]
    have : (n : Int) * ((r.length + 1 : Nat) : Int) = n * r.length + n := by rw [Int.natCast_add, Int.mul_add]; simp
    omega
theorem Ev.mark {β : Type} (m : Int → β → β) (c : β → Nat) (z : β) (B : Int) (N : Nat) (L : Nat → List β → Int → Int → Option (Int × List β))
    (hstep : ∀ (s : List β) (j : Nat) (a : Int) (r : Int × List β), j < N → s.length = N → 0 ≤ a → a + c (s.getD j z) ≤ B → Ev (fun k => L k (s.set j (m a (s.getD j z))) (a + c (s.getD j z)) ((j + 1 : Nat) : Int)) r → Ev (fun k => L k s a (j : Int)) r)
    (hend : ∀ (s : List β) (a : Int), s.length = N → Ev (fun k => L k s a (N : Int)) (a, s)) :
    ∀ (l : List β) (a : Int), l.length = N → 0 ≤ a → markEnd c a l ≤ B → Ev (fun k => L k l a 0) (markEnd c a l, markAll m c a l) := by
  have key : ∀ (l d : List β) (a : Int), d.length + l.length = N → 0 ≤ a → markEnd c a l ≤ B → Ev (fun k => L k (d ++ l) a (d.length : Int)) (markEnd c a l, d ++ markAll m c a l) := by
    intro l
    induction l with
    | nil =>
      intro d a hN _ _
      simp only [List.append_nil, markEnd, markAll]
      rw [List.length_nil, Nat.add_zero] at hN
      rw [hN]
      exact hend d a hN
    | cons x r ih =>
      intro d a hN h0 h1
      rw [List.length_cons] at hN
      have hx : (d ++ x :: r).getD d.length z = x := by simp [List.getD_eq_getElem?_getD]
      have hB := markEnd_ge c r (a + c x)
      simp only [markEnd] at h1
      refine hstep _ _ _ _ (by omega) (by simp; omega) h0 (by rw [hx]; omega) ?_
      rw [hx]
      have e : (d ++ x :: r).set d.length (m a x) = (d ++ [m a x]) ++ r := by
        rw [List.set_append_right _ _ (Nat.le_refl _), Nat.sub_self, List.set_cons_zero, List.append_assoc]
        rfl
      have h2 := ih (d ++ [m a x]) (a + c x) (by simp; omega) (by omega) h1
      rw [e]
      simpa [markAll, markEnd] using h2
  intro l a hN h0 h1
  simpa using key l [] a (by simpa using hN) h0 h1
theorem Ev.held {β : Type} (m : Int → β → β) (c : β → Nat) (z : β) (B : Int) (N : Nat) (L : Nat → List β → Int → Int → Option Int)
    (hstep : ∀ (s : List β) (j : Nat) (a : Int) (y : β) (r : Int), j < N → s.length = N → s.getD j z = m a y → 0 ≤ a → a + c y ≤ B → Ev (fun k => L k s (a + c y) ((j + 1 : Nat) : Int)) r → Ev (fun k => L k s a (j : Int)) r)
    (hend : ∀ (s : List β) (a : Int), s.length = N → Ev (fun k => L k s a (N : Int)) a) :
    ∀ (l : List β) (a : Int), l.length = N → 0 ≤ a → markEnd c a l ≤ B → Ev (fun k => L k (markAll m c a l) a 0) (markEnd c a l) := by
  have key : ∀ (l d : List β) (a : Int), d.length + l.length = N → 0 ≤ a → markEnd c a l ≤ B → Ev (fun k => L k (d ++ markAll m c a l) a (d.length : Int)) (markEnd c a l) := by
    intro l
    induction l with
    | nil =>
      intro d a hN _ _
      simp only [List.append_nil, markEnd, markAll]
      rw [List.length_nil, Nat.add_zero] at hN
      rw [hN]
      exact hend d a hN
    | cons x r ih =>
      intro d a hN h0 h1
      rw [List.length_cons] at hN
      have hB := markEnd_ge c r (a + c x)
      simp only [markEnd] at h1
      refine hstep _ _ _ x _ (by omega) (by simp [markAll, markAll_length]; omega) (by simp [markAll, List.getD_eq_getElem?_getD]) h0 (by omega) ?_
      have h2 := ih (d ++ [m a x]) (a + c x) (by simp; omega) (by omega) h1
      simpa [markAll, markEnd] using h2
  intro l a hN h0 h1
  simpa using key l [] a (by simpa using hN) h0 h1
theorem ltL_trans {a b c : List UInt8} (h : a < b) (h2 : b < c) : a < c := List.lt_trans h h2
theorem ltL_irrefl (a : List UInt8) : ¬ a < a := List.lt_irrefl a
theorem leL_or {a b : List UInt8} (h : a ≤ b) : a < b ∨ a = b := by
  have h1 := Go.Proofs.YtfndkjklphajmaaW.GStr.less_total a b
  rw [Go.Proofs.bytesLess_eq, Go.Proofs.bytesLess_eq] at h1
  have hb : ¬ b < a := List.not_lt.2 h
  rw [decide_eq_false hb] at h1
  simpa using h1
theorem leL_trans {a b c : List UInt8} (h : a ≤ b) (h2 : b ≤ c) : a ≤ c := List.le_trans h h2
theorem leL_total (a b : List UInt8) : a ≤ b ∨ b ≤ a := List.le_total a b
theorem compactUpTo_facts (d : Array (List UInt8)) (hs : ∀ i j, i < j → j < d.size → d[i]! ≤ d[j]!) : ∀ m, m ≤ d.size → (Lib.compactUpTo d m).Pairwise (· < ·) ∧ ∀ x, x ∈ Lib.compactUpTo d m ↔ ∃ i, i < m ∧ d[i]! = x := by
  intro m
  induction m with
  | zero => intro _; exact ⟨by simp [Lib.compactUpTo], fun x => by simp [Lib.compactUpTo]⟩
  | succ m ih =>
    intro hm
    obtain ⟨h1, h2⟩ := ih (by omega)
    rw [Lib.compactUpTo_succ]
    rcases Bool.eq_false_or_eq_true (Lib.keeps d m) with hk | hk
    · rw [if_pos hk]
      have hlt : ∀ x, x ∈ Lib.compactUpTo d m → x < d[m]! := by
        intro x hx
        obtain ⟨i, hi, rfl⟩ := (h2 x).1 hx
        have hne : d[m]! ≠ d[m - 1]! := by
          have := of_decide_eq_true hk
          exact this.resolve_left (by omega)
        have h3 : d[m - 1]! < d[m]! := (leL_or (hs (m - 1) m (by omega) (by omega))).resolve_right (fun e => hne e.symm)
        by_cases he : i = m - 1
        · rw [he]; exact h3
        · rcases leL_or (hs i (m - 1) (by omega) (by omega)) with h4 | h4
          · exact ltL_trans h4 h3
          · rw [h4]; exact h3
      refine ⟨List.pairwise_append.2 ⟨h1, List.pairwise_singleton _ _, fun a ha b hb => ?_⟩, fun x => ?_⟩
      · rw [List.mem_singleton.1 hb]; exact hlt a ha
      · rw [List.mem_append, h2, List.mem_singleton]
        constructor
        · rintro (⟨i, hi, e⟩ | e)
          · exact ⟨i, by omega, e⟩
          · exact ⟨m, by omega, e.symm⟩
        · rintro ⟨i, hi, e⟩
          by_cases he : i = m
          · exact .inr (by rw [← e, he])
          · exact .inl ⟨i, by omega, e⟩
    · rw [hk]
      simp only [Bool.false_eq_true, if_false, List.append_nil]
      refine ⟨h1, fun x => ?_⟩
      rw [h2]
      have hne := of_decide_eq_false hk
      have hm0 : m ≠ 0 := fun e => hne (.inl e)
      have he : d[m]! = d[m - 1]! := Classical.byContradiction fun e => hne (.inr e)
      constructor
      · rintro ⟨i, hi, e⟩; exact ⟨i, by omega, e⟩
      · rintro ⟨i, hi, e⟩
        by_cases h5 : i = m
        · exact ⟨m - 1, by omega, by rw [← e, h5, he]⟩
        · exact ⟨i, by omega, e⟩
theorem distinct_facts (u : List (List UInt8)) : (Lib.compact (u.mergeSort fun x y => decide (x ≤ y))).Pairwise (· < ·) ∧ ∀ x, x ∈ Lib.compact (u.mergeSort fun x y => decide (x ≤ y)) ↔ x ∈ u := by
  have hp : (u.mergeSort fun x y => decide (x ≤ y)).Perm u := List.mergeSort_perm _ _
  have hs : (u.mergeSort fun x y => decide (x ≤ y)).Pairwise (fun x y => decide (x ≤ y) = true) := List.pairwise_mergeSort (by intro a b c h1 h2; exact decide_eq_true (leL_trans (of_decide_eq_true h1) (of_decide_eq_true h2))) (by intro a b; rcases leL_total a b with h | h <;> simp [h]) u
  generalize (u.mergeSort fun x y => decide (x ≤ y)) = z at *
  have hg := List.pairwise_iff_getElem.1 hs
  have := compactUpTo_facts z.toArray (by
    intro i j hij hj
    have hj' : j < z.length := by simpa using hj
    have := hg i j (by omega) hj' hij
    simpa [getElem!_pos, hj', show i < z.length by omega] using this) z.length (by simp)
  refine ⟨this.1, fun x => ?_⟩
  rw [← hp.mem_iff]
  refine (this.2 x).trans ?_
  rw [List.mem_iff_getElem]
  constructor
  · rintro ⟨i, hi, e⟩
    exact ⟨i, hi, by simpa [getElem!_pos, hi] using e⟩
  · rintro ⟨i, hi, e⟩
    exact ⟨i, hi, by simpa [getElem!_pos, hi] using e⟩
theorem rdSx (l : List ByteArray) (j : Nat) : rdOf ByteArray.empty l (j : Int) = l.getD j ByteArray.empty := by simp [rdOf]
theorem toStringS_ev (l : List ByteArray) (hl : l.length * 16 ≤ 140737488351232) : Ev (fun k => laws_toStringS.f k l) l := by
  unfold laws_toStringS.f
  simp only [nat_nonneg, if_true, Int.toNat_natCast, show (l.length ≤ 17592186044416) = True from eq_true (by omega)]
  have key := Ev.copy (fun x : ByteArray => x) l ByteArray.empty (⟨#[]⟩ : ByteArray) (fun k s j => laws_toStringS.l0 k l s j)
    (by
      intro j s r hj hs h
      refine Ev.succ ?_
      have h1 : ((j : Int) < (l.length : Int)) = True := eq_true (by omega)
      simp only [laws_toStringS.l0, h1, if_true, nat_nonneg, hs, Int.toNat_natCast, wrap_succ (show j < 4611686018427387904 by omega), rdSx]
      exact h)
    (by
      intro s hs
      refine Ev.succ ?_
      simp only [laws_toStringS.l0, Int.lt_irrefl, if_false]
      exact Ev.now _)
  simpa using key
theorem szStringS_ev (l : List ByteArray) (hl : l.length * 16 ≤ 140737488351232) (hz : ∀ y, y ∈ l → y.size ≤ 140737488351232) : ∃ r, (0 ≤ r → l.length ≤ 1048576) ∧ Ev (fun k => laws_szStringS.f k l 1048576) r := by
  unfold laws_szStringS.f
  rw [wrap_id (x := 1048576 - (l.length : Int)) (by omega) (by omega)]
  by_cases h0 : (1048576 : Int) - l.length < 0
  · refine ⟨-1, fun h => absurd h (by decide), ?_⟩
    simp only [eq_true h0, if_true]
    exact Ev.now _
  · obtain ⟨r, _, hr⟩ := Ev.sz (L := fun k j a => laws_szStringS.l0 k l a (j : Int)) (n := l.length)
      (by
        intro j a hj ha0 ha1
        have h1 : ((j : Int) < (l.length : Int)) = True := eq_true (by omega)
        have hs := hz (l.getD j ByteArray.empty) (by rw [List.getD_eq_getElem?_getD, List.getElem?_eq_getElem hj]; exact List.getElem_mem hj)
        by_cases hc : a - ((l.getD j ByteArray.empty).size : Int) < 0
        · refine .inr (Ev.succ ?_)
          simp only [laws_szStringS.l0, h1, if_true, nat_nonneg, rdSx, wrap_id (x := a - ((l.getD j ByteArray.empty).size : Int)) (by omega) (by omega), eq_true hc]
          exact Ev.now _
        · refine .inl ⟨a - ((l.getD j ByteArray.empty).size : Int), by omega, by omega, fun r h => Ev.succ ?_⟩
          simp only [laws_szStringS.l0, h1, if_true, nat_nonneg, rdSx, wrap_id (x := a - ((l.getD j ByteArray.empty).size : Int)) (by omega) (by omega), eq_false hc, if_false, wrap_succ (show j < 4611686018427387904 by omega)]
          exact h)
      (by
        intro a _ _
        refine Ev.succ ?_
        simp only [laws_szStringS.l0, Int.lt_irrefl, if_false]
        exact Ev.now _)
      0 (Nat.zero_le _) (1048576 - (l.length : Int)) (by omega) (by omega)
    refine ⟨r, fun _ => by omega, ?_⟩
    simp only [eq_false h0, if_false]
    exact hr
theorem rdS (l : List ByteArray) (j : Nat) : rdOf ByteArray.empty l (j : Int) = l.getD j ByteArray.empty := by simp [rdOf]
theorem eqStringS_ev (l : List ByteArray) (hl : l.length < 4611686018427387904) : Ev (fun k => laws_eqStringS.f k l l) true := by
  unfold laws_eqStringS.f
  simp only [if_true]
  exact Ev.upto (L := fun k j => laws_eqStringS.l0 k l l (j : Int)) (r := true) (n := l.length)
    (by
      refine Ev.succ ?_
      simp only [laws_eqStringS.l0, Int.lt_irrefl, if_false]
      exact Ev.now _)
    (by
      intro j hj h
      refine Ev.succ ?_
      have h1 : ((j : Int) < (l.length : Int)) = True := eq_true (by omega)
      simp only [laws_eqStringS.l0, h1, if_true, nat_nonneg, wrap_succ (show j < 4611686018427387904 by omega)]
      exact h)
    0 (Nat.zero_le _)
def ky (b : ByteArray) : List UInt8 := b.data.toList
def upB (l : List ByteArray) : Prop := l.Pairwise (fun a b => ky a < ky b)
theorem ins_up (l : List ByteArray) (s : ByteArray) (j : Nat) (hu : upB l) (h1 : ∀ x, x ∈ l.take j → ky x < ky s) (h2 : ∀ x, x ∈ l.drop j → ky s < ky x) : upB (l.take j ++ [s] ++ l.drop j) := by
  unfold upB at *
  rw [List.pairwise_append, List.pairwise_append]
  refine ⟨⟨hu.sublist (List.take_sublist _ _), List.pairwise_singleton _ _, fun a ha b hb => by rw [List.mem_singleton.1 hb]; exact h1 a ha⟩, hu.sublist (List.drop_sublist _ _), fun a ha b hb => ?_⟩
  rcases List.mem_append.1 ha with h | h
  · exact ltL_trans (h1 a h) (h2 b hb)
  · rw [List.mem_singleton.1 h]; exact h2 b hb
theorem ins_mem (l : List ByteArray) (s : ByteArray) (j : Nat) (x : List UInt8) : x ∈ (l.take j ++ [s] ++ l.drop j).map ky ↔ x ∈ l.map ky ∨ x = ky s := by
  have e : x ∈ l.map ky ↔ x ∈ (l.take j).map ky ∨ x ∈ (l.drop j).map ky := by
    conv => lhs; rw [← List.take_append_drop j l]
    rw [List.map_append, List.mem_append]
  rw [e, List.map_append, List.map_append, List.mem_append, List.mem_append, List.map_cons, List.map_nil, List.mem_singleton]
  constructor
  · rintro ((h | h) | h)
    · exact .inl (.inl h)
    · exact .inr h
    · exact .inl (.inr h)
  · rintro ((h | h) | h)
    · exact .inl (.inl h)
    · exact .inr h
    · exact .inl (.inr h)
theorem ctPut_l0 (l : List ByteArray) (s : ByteArray) (hl : l.length < 1000000) (hu : upB l) : ∀ d j, j + d = l.length → (∀ x, x ∈ l.take j → ky x < ky s) →
    ∃ r, Ev (fun k => spec_ctPut.l0 k l s (j : Int)) r ∧ upB r ∧ (∀ x, x ∈ r.map ky ↔ x ∈ l.map ky ∨ x = ky s) ∧ r.length ≤ l.length + 1 := by
  intro d
  induction d with
  | zero =>
    intro j hj h1
    have hj' : j = l.length := by omega
    refine ⟨l.take j ++ [s] ++ l.drop j, Ev.succ ?_, ins_up l s j hu h1 (by rw [hj', List.drop_length]; intro x hx; cases hx), ins_mem l s j, by simp; omega⟩
    have g1 : ((j : Int) < (l.length : Int)) = False := eq_false (by omega)
    have g2 : ((j : Int) ≤ (l.length : Int)) = True := eq_true (by omega)
    have g3 : (([] : List ByteArray).length + (l.take j).length < 8796093022208) = True := eq_true (by simp; omega)
    have g4 : (([] ++ l.take j).length + [s].length < 8796093022208) = True := eq_true (by simp; omega)
    have g5 : (([] ++ l.take j ++ [s]).length + (l.drop j).length < 8796093022208) = True := eq_true (by simp; omega)
    simp only [spec_ctPut.l0, g1, g2, if_true, if_false, nat_nonneg, Option.bind_some, Int.toNat_natCast, g3, g4, g5]
    exact Ev.now _
  | succ d ih =>
    intro j hj h1
    have hlt : j < l.length := by omega
    have g1 : ((j : Int) < (l.length : Int)) = True := eq_true (by omega)
    have hg : l.getD j ByteArray.empty = l[j] := by rw [List.getD_eq_getElem?_getD, List.getElem?_eq_getElem hlt]; rfl
    have et : ∀ b : ByteArray, b.toList = ky b := ByteArray.toList_eq
    by_cases h2 : ky l[j] < ky s
    · obtain ⟨r, h3, h4⟩ := ih (j + 1) (by omega) (by
        intro x hx
        rw [List.take_succ_eq_append_getElem hlt] at hx
        rcases List.mem_append.1 hx with h | h
        · exact h1 x h
        · rw [List.mem_singleton.1 h]; exact h2)
      refine ⟨r, Ev.succ ?_, h4⟩
      simp only [spec_ctPut.l0, g1, if_true, nat_nonneg, rdSx, hg, et, bytesLess_eq, decide_eq_true h2, wrap_succ (show j < 4611686018427387904 by omega)]
      exact h3
    · by_cases h3 : ky l[j] = ky s
      · refine ⟨l, Ev.succ ?_, hu, fun x => ⟨fun h => .inl h, fun h => h.elim id (fun e => ?_)⟩, by omega⟩
        · simp only [spec_ctPut.l0, g1, if_true, nat_nonneg, rdSx, hg, et, bytesLess_eq, decide_eq_false h2, Bool.false_eq_true, if_false, eq_true h3]
          exact Ev.now _
        · rw [e, ← h3]; exact List.mem_map.2 ⟨_, List.getElem_mem hlt, rfl⟩
      · have h4 : ky s < ky l[j] := (leL_or (List.not_lt.1 h2)).resolve_right (fun e => h3 e.symm)
        refine ⟨l.take j ++ [s] ++ l.drop j, Ev.succ ?_, ins_up l s j hu h1 ?_, ins_mem l s j, by simp; omega⟩
        · have g2 : ((j : Int) ≤ (l.length : Int)) = True := eq_true (by omega)
          have g3 : (([] : List ByteArray).length + (l.take j).length < 8796093022208) = True := eq_true (by simp; omega)
          have g4 : (([] ++ l.take j).length + [s].length < 8796093022208) = True := eq_true (by simp; omega)
          have g5 : (([] ++ l.take j ++ [s]).length + (l.drop j).length < 8796093022208) = True := eq_true (by simp; omega)
          simp only [spec_ctPut.l0, g1, g2, if_true, nat_nonneg, rdSx, hg, et, bytesLess_eq, decide_eq_false h2, Bool.false_eq_true, if_false, eq_false h3, Option.bind_some, Int.toNat_natCast, g3, g4, g5]
          exact Ev.now _
        · intro x hx
          have hd : (l.drop j).Pairwise (fun a b => ky a < ky b) := hu.sublist (List.drop_sublist _ _)
          rw [List.drop_eq_getElem_cons hlt] at hx hd
          rcases List.mem_cons.1 hx with h | h
          · rw [h]; exact h4
          · exact ltL_trans h4 ((List.pairwise_cons.1 hd).1 x h)
theorem ctPut_ev (l : List ByteArray) (s : ByteArray) (hl : l.length < 1000000) (hu : upB l) : ∃ r, Ev (fun k => spec_ctPut.f k l s) r ∧ upB r ∧ (∀ x, x ∈ r.map ky ↔ x ∈ l.map ky ∨ x = ky s) ∧ r.length ≤ l.length + 1 := by
  unfold spec_ctPut.f
  exact ctPut_l0 l s hl hu l.length 0 (by omega) (by simp)
/-- How many different texts there are. -/
def dlen (u : List ByteArray) : Nat := (Lib.compact ((u.map ky).mergeSort fun x y => decide (x ≤ y))).length
theorem distinct_dlen (u : List ByteArray) (hl : u.length < 1000000) : ∃ r, impl_distinct_string.f u = some r ∧ r.length = dlen u := by
  unfold impl_distinct_string.f slices_Clone_string.f
  simp only [Option.bind_some, List.length_nil, Nat.zero_add, List.nil_append, eq_true (show u.length < 8796093022208 by omega), if_true]
  refine ⟨_, rfl, ?_⟩
  unfold impl_distinct_string.comp impl_distinct_string.sorted impl_distinct_string.un impl_distinct_string.tb dlen
  rw [List.length_map, List.map_map]
  congr 2
  exact List.map_id'' (fun x => by simp) _
theorem ky_inj {a b : ByteArray} (h : ky a = ky b) : a = b := by
  cases a; cases b
  unfold ky at h
  simp only at h
  congr 1
  exact Array.toList_inj.1 h
theorem up_unique {n m : List ByteArray} (hn : upB n) (hm : upB m) (h : ∀ x, x ∈ n.map ky ↔ x ∈ m.map ky) : n = m := by
  have hmem : ∀ x, x ∈ n ↔ x ∈ m := by
    intro x
    have key : ∀ l : List ByteArray, ky x ∈ l.map ky ↔ x ∈ l := fun l => ⟨fun hx => by
      obtain ⟨y, hy, e⟩ := List.mem_map.1 hx
      rw [← ky_inj e]; exact hy, fun hx => List.mem_map.2 ⟨x, hx, rfl⟩⟩
    rw [← key, ← key]
    exact h _
  have nd : ∀ {l : List ByteArray}, upB l → l.Nodup := fun {l} hl => List.Pairwise.imp (S := fun a b : ByteArray => a ≠ b) (fun {a b} hlt e => ltL_irrefl (ky b) (by rw [e] at hlt; exact hlt)) hl
  have hp := (List.perm_ext_iff_of_nodup (nd hn) (nd hm)).2 hmem
  exact List.Perm.eq_of_pairwise (le := fun a b => ky a < ky b) (fun a b _ _ h1 h2 => absurd (ltL_trans h1 h2) (ltL_irrefl _)) hn hm hp
theorem distinct_up (u : List ByteArray) (hl : u.length < 1000000) : ∃ r, impl_distinct_string.f u = some r ∧ upB r ∧ (∀ x, x ∈ r.map ky ↔ x ∈ u.map ky) ∧ r.length = dlen u := by
  obtain ⟨r0, h0, h00⟩ := distinct_dlen u hl
  refine ⟨r0, h0, ?_⟩
  have e : r0.map ky = Lib.compact ((u.map ky).mergeSort fun x y => decide (x ≤ y)) := by
    unfold impl_distinct_string.f slices_Clone_string.f at h0
    simp only [Option.bind_some, List.length_nil, Nat.zero_add, List.nil_append, eq_true (show u.length < 8796093022208 by omega), if_true] at h0
    have h1 := Option.some.inj h0
    rw [← h1]
    unfold impl_distinct_string.comp impl_distinct_string.sorted impl_distinct_string.un impl_distinct_string.tb
    rw [List.map_map, List.map_map]
    have e1 : ∀ l : List (List UInt8), l.map (ky ∘ fun b => (⟨b.toArray⟩ : ByteArray)) = l := fun l => List.map_id'' (fun x => by simp [ky]) l
    have e2 : ∀ l : List (List UInt8), l.map ((fun x : ByteArray => x.data.toList) ∘ fun b => (⟨b.toArray⟩ : ByteArray)) = l := fun l => List.map_id'' (fun x => by simp) l
    rw [e1, e2]
    rfl
  obtain ⟨h1, h2⟩ := distinct_facts (u.map ky)
  rw [← e] at h1 h2
  exact ⟨List.pairwise_map.1 h1, h2, h00⟩
def inB (a b c : Int) : Bool := decide (b ≤ a ∧ a ≤ c)
theorem l1In_eq (a b c : Int) : spec_l1In.f a b c = some (inB a b c) := by
  unfold spec_l1In.f inB
  split <;> simp <;> omega
theorem within_eq (a b c : Int) : impl_within.f a b c = some (inB a b c) := by
  unfold impl_within.f inB
  split <;> simp <;> omega
def capAt (s : ByteArray) (j : Nat) : Bool := decide (65 ≤ bt s j ∧ bt s j ≤ 90)
def glossB (s : ByteArray) : Bool := inB s.size 1 8 && (List.range s.size).all (capAt s)
def caps : ByteArray := ⟨#[65, 66, 67, 68, 69, 70, 71, 72, 73, 74, 75, 76, 77, 78, 79, 80, 81, 82, 83, 84, 85, 86, 87, 88, 89, 90]⟩
theorem caps_all : ((List.range 256).all fun n => decide (Lib.indexByte caps.data.toList n.toUInt8 < 0) == !(decide (65 ≤ n ∧ n ≤ 90))) = true := by decide +kernel
theorem caps_index (b : Int) (h0 : 0 ≤ b) (h1 : b ≤ 255) : (Lib.indexByte caps.data.toList b.toNat.toUInt8 < 0) ↔ ¬ (65 ≤ b ∧ b ≤ 90) := by
  have h := List.all_eq_true.1 caps_all b.toNat (List.mem_range.2 (by omega))
  simp only [beq_iff_eq] at h
  by_cases hc : 65 ≤ b ∧ b ≤ 90
  · have h2 : decide (65 ≤ b.toNat ∧ b.toNat ≤ 90) = true := decide_eq_true (by omega)
    rw [h2] at h
    exact ⟨fun h3 => absurd h3 (of_decide_eq_false h), fun h3 => absurd hc h3⟩
  · have h2 : decide (65 ≤ b.toNat ∧ b.toNat ≤ 90) = false := decide_eq_false (by omega)
    rw [h2] at h
    exact ⟨fun _ => hc, fun _ => of_decide_eq_true h⟩
theorem hasOnly_ev (s : ByteArray) (hs : s.size < 4611686018427387904) : Ev (fun k => impl_hasOnly.f k s caps) ((List.range s.size).all (capAt s)) := by
  unfold impl_hasOnly.f
  refine Ev.eq (Ev.all0 (L := fun k j => impl_hasOnly.l0 k s caps (s.size : Int) (j : Int)) (P := capAt s) (n := s.size) (a := true) (b := false) ?_ ?_ ?_) (by split <;> simp_all)
  · refine Ev.succ ?_
    simp only [impl_hasOnly.l0, Int.lt_irrefl, if_false]
    exact Ev.now _
  · intro j r hj hP h
    refine Ev.succ ?_
    have h1 : ((j : Int) < (s.size : Int)) = True := eq_true (by omega)
    have hb := bt_range s (j : Int)
    have h2 : (Lib.indexByte caps.data.toList (bt s (j : Int)).toNat.toUInt8 < 0) = False := eq_false (fun hc => (caps_index _ hb.1 hb.2).1 hc (of_decide_eq_true hP))
    simp only [impl_hasOnly.l0, strings_IndexByte.f, Option.bind_some, h1, if_true, nat_nonneg, h2, if_false, wrap_succ (show j < 4611686018427387904 by omega)]
    exact h
  · intro j hj hP
    refine Ev.succ ?_
    have h1 : ((j : Int) < (s.size : Int)) = True := eq_true (by omega)
    have hb := bt_range s (j : Int)
    have h2 : (Lib.indexByte caps.data.toList (bt s (j : Int)).toNat.toUInt8 < 0) = True := eq_true ((caps_index _ hb.1 hb.2).2 (of_decide_eq_false hP))
    simp only [impl_hasOnly.l0, strings_IndexByte.f, Option.bind_some, h1, if_true, nat_nonneg, h2]
    exact Ev.now _
theorem isGloss_ev (s : ByteArray) (hs : s.size < 4611686018427387904) : Ev (fun k => impl_IsGloss.f k s) (glossB s) := by
  unfold impl_IsGloss.f impl_isWordOf.f glossB
  refine Ev.bind (a := inB s.size 1 8 && (List.range s.size).all (capAt s)) ?_ (Ev.now _)
  simp only [within_eq, Option.bind_some]
  rcases Bool.eq_false_or_eq_true (inB s.size 1 8) with h | h
  · simp only [h, if_true, Bool.true_and]
    exact Ev.bind (hasOnly_ev s hs) (Ev.now _)
  · simp only [h]
    exact Ev.now _
theorem enGloss_ev (s : ByteArray) (hs : s.size < 4611686018427387904) : Ev (fun k => spec_enGloss.f k s) (glossB s) := by
  unfold spec_enGloss.f
  refine Ev.eq (Ev.all0 (L := fun k j => spec_enGloss.l0 k s (j : Int)) (P := capAt s) (n := s.size) (a := inB s.size 1 8) (b := false) ?_ ?_ ?_) (by unfold glossB; split <;> simp_all)
  · refine Ev.succ ?_
    simp only [spec_enGloss.l0, Int.lt_irrefl, if_false, l1In_eq, Option.bind_some]
    exact Ev.now _
  · intro j r hj hP h
    refine Ev.succ ?_
    have h1 : ((j : Int) < (s.size : Int)) = True := eq_true (by omega)
    have hP' := of_decide_eq_true hP
    simp only [spec_enGloss.l0, h1, if_true, nat_nonneg, show (bt s (j : Int) < 65) = False from eq_false (by omega), show (bt s (j : Int) > 90) = False from eq_false (by omega), if_false, wrap_succ (show j < 4611686018427387904 by omega)]
    exact h
  · intro j hj hP
    refine Ev.succ ?_
    have h1 : ((j : Int) < (s.size : Int)) = True := eq_true (by omega)
    have hP' := of_decide_eq_false hP
    simp only [spec_enGloss.l0, h1, if_true, nat_nonneg]
    by_cases h2 : bt s (j : Int) < 65
    · simp only [eq_true h2, if_true]
      exact Ev.now _
    · simp only [eq_false h2, if_false, show (bt s (j : Int) > 90) = True from eq_true (by omega), if_true]
      exact Ev.now _
def tokB (l : List ByteArray) : Bool := decide (l.length ≤ 120) && l.all glossB
theorem tokB_len {l : List ByteArray} (h : tokB l = true) : l.length ≤ 120 := by
  unfold tokB at h
  rw [Bool.and_eq_true] at h
  exact of_decide_eq_true h.1
/-- Every text is short enough. -/
def TSz (l : List ByteArray) : Prop := ∀ y, y ∈ l → y.size ≤ 140737488351232
theorem tokAll_ev : ∀ l : List ByteArray, TSz l → Ev (fun k => impl_areTokens.all k l) (l.all glossB)
  | [], _ => Ev.now _
  | s :: l, hz => by
    unfold impl_areTokens.all
    have hs := hz s (List.mem_cons_self ..)
    refine Ev.bind (isGloss_ev s (by omega)) ?_
    refine Ev.bind (tokAll_ev l (fun y hy => hz y (List.mem_cons_of_mem _ hy))) ?_
    rw [List.all_cons]
    exact Ev.now _
theorem areTokens_ev (l : List ByteArray) (hz : TSz l) : Ev (fun k => impl_areTokens.f k l) (tokB l) := by
  unfold impl_areTokens.f tokB
  by_cases h : l.length ≤ 120
  · have h1 : ((l.length : Int) ≤ 120) = True := eq_true (by omega)
    simp only [h1, if_true, h, decide_true, Bool.true_and]
    exact tokAll_ev l hz
  · have h1 : ((l.length : Int) ≤ 120) = False := eq_false (by omega)
    simp only [h1, if_false, h, decide_false, Bool.false_and]
    exact Ev.now _
theorem all_range (l : List ByteArray) (p : ByteArray → Bool) : ((List.range l.length).all fun i => p (l.getD i ByteArray.empty)) = l.all p := by
  rw [Bool.eq_iff_iff, List.all_eq_true, List.all_eq_true]
  constructor
  · intro h x hx
    obtain ⟨i, hi, rfl⟩ := List.getElem_of_mem hx
    have := h i (List.mem_range.2 hi)
    simpa [List.getD_eq_getElem?_getD, List.getElem?_eq_getElem hi] using this
  · intro h i hi
    have hi' := List.mem_range.1 hi
    have := h l[i] (List.getElem_mem hi')
    simpa [List.getD_eq_getElem?_getD, List.getElem?_eq_getElem hi'] using this
theorem ctGood_ev (l : List ByteArray) (hl : l.length < 4611686018427387904) (hz : TSz l) : Ev (fun k => spec_ctGood.f k l) (tokB l) := by
  unfold spec_ctGood.f
  have hg : ∀ j, j < l.length → (l.getD j ByteArray.empty).size < 4611686018427387904 := by
    intro j hj
    have := hz (l.getD j ByteArray.empty) (by rw [List.getD_eq_getElem?_getD, List.getElem?_eq_getElem hj]; exact List.getElem_mem hj)
    omega
  have key := Ev.all0 (L := fun k j => spec_ctGood.l0 k l l (l.length : Int) (j : Int)) (P := fun i => glossB (l.getD i ByteArray.empty)) (n := l.length) (a := decide (l.length ≤ 120)) (b := false)
    (by
      refine Ev.succ ?_
      simp only [spec_ctGood.l0, Int.lt_irrefl, if_false]
      refine Ev.eq (Ev.now _) ?_
      rw [decide_eq_decide]
      omega)
    (by
      intro j r hj hP h
      refine Ev.succ ?_
      have h1 : ((j : Int) < (l.length : Int)) = True := eq_true (by omega)
      simp only [spec_ctGood.l0, h1, if_true, nat_nonneg, rdSx, wrap_succ (show j < 4611686018427387904 by omega)]
      refine Ev.bind (enGloss_ev _ (hg j hj)) ?_
      simp only [hP, if_true]
      exact h)
    (by
      intro j hj hP
      refine Ev.succ ?_
      have h1 : ((j : Int) < (l.length : Int)) = True := eq_true (by omega)
      simp only [spec_ctGood.l0, h1, if_true, nat_nonneg, rdSx]
      refine Ev.bind (enGloss_ev _ (hg j hj)) ?_
      simp only [hP]
      exact Ev.now _)
  refine Ev.eq key ?_
  rw [all_range]
  unfold tokB
  cases l.all glossB <;> simp
theorem ctAsked_ev (l : List ByteArray) (g : ByteArray) (hl : l.length < 4611686018427387904) (hz : TSz l) (hg : g.size < 4611686018427387904) : Ev (fun k => spec_ctAsked.f k l g) (tokB l && glossB g) := by
  unfold spec_ctAsked.f
  refine Ev.bind (ctGood_ev l hl hz) ?_
  rcases Bool.eq_false_or_eq_true (tokB l) with h | h
  · simp only [h, if_true, Bool.true_and]
    exact Ev.bind (enGloss_ev g hg) (Ev.now _)
  · simp only [h]
    exact Ev.now _
def hit (g s : ByteArray) : Bool := decide (s.toList = g.toList)
/-- The places of g, from j on, of d tokens. -/
def plcs (l : List ByteArray) (g : ByteArray) (d j : Nat) (c : List Int) : List Int := impl_placesOf.at (hit g) l d j c
theorem placesOf_eq (l : List ByteArray) (g : ByteArray) (hl : l.length < 17592186044416) : impl_placesOf.f l g = some (plcs l g l.length 0 []) := by
  unfold impl_placesOf.f
  rw [if_pos hl]
  rfl
theorem plcs_succ (l : List ByteArray) (g : ByteArray) (d j : Nat) (c : List Int) : plcs l g (d + 1) j c = plcs l g d (j + 1) (if hit g (l.getD j ByteArray.empty) then c ++ [(j : Int)] else c) := rfl
theorem plcs_length (l : List ByteArray) (g : ByteArray) : ∀ d j c, (plcs l g d j c).length ≤ c.length + d := by
  intro d
  induction d with
  | zero => intro j c; exact Nat.le_refl _
  | succ d ih =>
    intro j c
    rw [plcs_succ]
    by_cases h : hit g (l.getD j ByteArray.empty) = true
    · rw [if_pos h]
      have := ih (j + 1) (c ++ [(j : Int)])
      rw [List.length_append, List.length_singleton] at this
      omega
    · rw [if_neg h]
      have := ih (j + 1) c
      omega
theorem strOfNums_one (x : Int) : (strOfNums [x]).size = 1 := by simp [strOfNums, ByteArray.size]
theorem markText_l0 : ∀ (n : Nat) (a : Int) (s : ByteArray), 0 ≤ a → a.toNat ≤ n → a ≤ 1000000000 → s.size + n ≤ 2000000000 → ∃ r, Ev (fun k => laws_markText.l0 k a s) r := by
  intro n
  induction n with
  | zero =>
    intro a s h0 h1 h2 h3
    refine ⟨(⟨#[109]⟩ : ByteArray) ++ s, Ev.succ ?_⟩
    have h4 : (a > 0) = False := eq_false (by omega)
    have h5 : (1 + s.size ≤ 9223372036854775807) = True := eq_true (by omega)
    simp only [laws_markText.l0, h4, h5, if_true, if_false]
    exact Ev.now _
  | succ n ih =>
    intro a s h0 h1 h2 h3
    by_cases h : a > 0
    · have hd := Int.tdiv_eq_ediv_of_nonneg (b := 10) h0
      have h7 : Int.tdiv a 10 < a ∧ 0 ≤ Int.tdiv a 10 := by rw [hd]; omega
      have hx : (strOfNums [(wrap64 (48 + Int.tmod a 10)) % 256]).size = 1 := strOfNums_one _
      have h5 : ((strOfNums [(wrap64 (48 + Int.tmod a 10)) % 256]).size + s.size ≤ 9223372036854775807) = True := eq_true (by omega)
      obtain ⟨r, hr⟩ := ih (Int.tdiv a 10) (strOfNums [(wrap64 (48 + Int.tmod a 10)) % 256] ++ s) h7.2 (by omega) (by omega) (by rw [ByteArray.size_append]; omega)
      refine ⟨r, Ev.succ ?_⟩
      simp only [laws_markText.l0, eq_true h, h5, if_true, Option.bind_some, wrap_id (x := Int.tdiv a 10) (by omega) (by omega)]
      exact hr
    · refine ⟨(⟨#[109]⟩ : ByteArray) ++ s, Ev.succ ?_⟩
      have h5 : (1 + s.size ≤ 9223372036854775807) = True := eq_true (by omega)
      simp only [laws_markText.l0, eq_false h, h5, if_true, if_false]
      exact Ev.now _
theorem markText_some (a : Int) (ha : a ≤ 1000000000) : ∃ r, Ev (fun k => laws_markText.f k a) r := by
  unfold laws_markText.f
  by_cases h : a ≤ 0
  · simp only [eq_true h, if_true]
    exact ⟨_, Ev.now _⟩
  · simp only [eq_false h, if_false]
    exact markText_l0 a.toNat a _ (by omega) (Nat.le_refl _) ha (by simp [ByteArray.size]; omega)
/-- The mark's text. -/
noncomputable def mtext (a : Int) : ByteArray := @dite _ (∃ r, Ev (fun k => laws_markText.f k a) r) (Classical.propDecidable _) (fun h => Classical.choose h) (fun _ => ByteArray.empty)
theorem markText_ev (a : Int) (ha : a ≤ 1000000000) : Ev (fun k => laws_markText.f k a) (mtext a) := by
  unfold mtext
  rw [dif_pos (markText_some a ha)]
  exact Classical.choose_spec (markText_some a ha)
noncomputable def smark (a : Int) (_ : ByteArray) : ByteArray := mtext a
noncomputable def markStrs (a : Int) (l : List ByteArray) : List ByteArray := markAll smark (fun _ => 1) a l
theorem markStringS_ev (l : List ByteArray) (a : Int) (h0 : 0 ≤ a) (ha : a + l.length ≤ 1000000000) : Ev (fun k => laws_markStringS.f k l a) (a + l.length, markStrs a l) := by
  unfold laws_markStringS.f markStrs
  have e : a + (l.length : Int) = markEnd (fun _ => 1) a l := by rw [markEnd_const]; omega
  rw [e]
  refine Ev.mark smark (fun _ => 1) ByteArray.empty 1000000000 l.length (fun k s a j => laws_markStringS.l0 k s a j) ?_ ?_ l a rfl h0 (by rw [markEnd_const]; omega)
  · intro s j a r hj hs h0 h1 h
    refine Ev.succ ?_
    have h2 : ((j : Int) < (l.length : Int)) = True := eq_true (by omega)
    have h1 : a + 1 ≤ 1000000000 := h1
    simp only [laws_markStringS.l0, hs, h2, if_true, nat_nonneg, Int.toNat_natCast, wrap_succ (show j < 4611686018427387904 by omega), wrap_id (x := a + 1) (by omega) (by omega)]
    refine Ev.bind (markText_ev a (by omega)) ?_
    exact h
  · intro s a hs
    refine Ev.succ ?_
    simp only [laws_markStringS.l0, hs, Int.lt_irrefl, if_false]
    exact Ev.now _
theorem heldStringS_ev (l : List ByteArray) (a : Int) (h0 : 0 ≤ a) (ha : a + l.length ≤ 1000000000) : Ev (fun k => laws_heldStringS.f k (markStrs a l) a) (a + l.length) := by
  unfold laws_heldStringS.f markStrs
  have e : a + (l.length : Int) = markEnd (fun _ => 1) a l := by rw [markEnd_const]; omega
  rw [e]
  refine Ev.held smark (fun _ => 1) ByteArray.empty 1000000000 l.length (fun k s a j => laws_heldStringS.l0 k s a j) ?_ ?_ l a rfl h0 (by rw [markEnd_const]; omega)
  · intro s j a y r hj hs hg h0 h1 h
    refine Ev.succ ?_
    have h2 : ((j : Int) < (l.length : Int)) = True := eq_true (by omega)
    have h1 : a + 1 ≤ 1000000000 := h1
    simp only [laws_heldStringS.l0, hs, h2, if_true, nat_nonneg, rdS, hg, wrap_succ (show j < 4611686018427387904 by omega), wrap_id (x := a + 1) (by omega) (by omega)]
    refine Ev.bind (markText_ev a (by omega)) ?_
    simp only [smark, if_true]
    exact h
  · intro s a hs
    refine Ev.succ ?_
    simp only [laws_heldStringS.l0, hs, Int.lt_irrefl, if_false]
    exact Ev.now _
end Go.Proofs.Ytfndkjklphajmaa.Pure
namespace Go.Proofs.Ytfndkjklphajmaa.Pure
open Go.RowKit Go.Proofs.Ytfndkjklphajmaa.Q Go.Proofs.YtfndkjklphajmaaW.PrintWords Go.Proofs.YtfndkjklphajmaaW.PrintLast

theorem plcs_mem (l : List ByteArray) (g : ByteArray) : ∀ d j (c : List Int) (i : Int), i ∈ plcs l g d j c ↔ i ∈ c ∨ ∃ m : Nat, j ≤ m ∧ m < j + d ∧ i = (m : Int) ∧ hit g (l.getD m ByteArray.empty) = true := by
  intro d
  induction d with
  | zero =>
    intro j c i
    show i ∈ c ↔ _
    constructor
    · exact .inl
    · rintro (h | ⟨m, h1, h2, _⟩)
      · exact h
      · omega
  | succ d ih =>
    intro j c i
    rw [plcs_succ, ih]
    by_cases h : hit g (l.getD j ByteArray.empty) = true
    · rw [if_pos h, List.mem_append, List.mem_singleton]
      constructor
      · rintro ((h1 | h1) | ⟨m, h1, h2, h3⟩)
        · exact .inl h1
        · exact .inr ⟨j, Nat.le_refl _, by omega, h1, h⟩
        · exact .inr ⟨m, by omega, by omega, h3⟩
      · rintro (h1 | ⟨m, h1, h2, h3, h4⟩)
        · exact .inl (.inl h1)
        · by_cases he : m = j
          · subst he; exact .inl (.inr h3)
          · exact .inr ⟨m, by omega, by omega, h3, h4⟩
    · rw [if_neg h]
      constructor
      · rintro (h1 | ⟨m, h1, h2, h3⟩)
        · exact .inl h1
        · exact .inr ⟨m, by omega, by omega, h3⟩
      · rintro (h1 | ⟨m, h1, h2, h3, h4⟩)
        · exact .inl h1
        · by_cases he : m = j
          · subst he; exact absurd h4 h
          · exact .inr ⟨m, by omega, by omega, h3, h4⟩
/-- What stands just before the places, and just behind them. -/
def befP (l : List ByteArray) (p : List Int) : List ByteArray := p.flatMap fun i : Int => if i > 0 then [l.getD (i - 1).toNat ByteArray.empty] else []
def behP (l : List ByteArray) (p : List Int) : List ByteArray := p.flatMap fun i : Int => if i + 1 < l.length then [l.getD (i + 1).toNat ByteArray.empty] else []
theorem flat_le (p : List Int) (f : Int → List ByteArray) (h : ∀ i, (f i).length ≤ 1) : (p.flatMap f).length ≤ p.length := by
  induction p with
  | nil => simp
  | cons i p ih =>
    have := h i
    rw [List.flatMap_cons, List.length_append, List.length_cons]
    omega
theorem befP_le (l : List ByteArray) (p : List Int) : (befP l p).length ≤ p.length := flat_le p _ (fun i => by split <;> simp)
theorem behP_le (l : List ByteArray) (p : List Int) : (behP l p).length ≤ p.length := flat_le p _ (fun i => by split <;> simp)
theorem implCtx_l0 (l : List ByteArray) (p : List Int) (hl : l.length ≤ 120) (hp : p.length ≤ 120) (hb : ∀ i, i ∈ p → 0 ≤ i ∧ i < l.length) (db dh : List ByteArray) (h1 : impl_distinct_string.f (befP l p) = some db) (h2 : impl_distinct_string.f (behP l p) = some dh) : ∀ d j, j + d = p.length →
    Ev (fun k => impl_ContextsOf.l0 k l (befP l (p.take j)) (behP l (p.take j)) p (p.length : Int) (j : Int)) (db, dh, true) := by
  intro d
  induction d with
  | zero =>
    intro j hj
    refine Ev.succ ?_
    have hj' : j = p.length := by omega
    subst hj'
    simp only [impl_ContextsOf.l0, Int.lt_irrefl, if_false, List.take_length, h1, h2, Option.bind_some]
    exact Ev.now _
  | succ d ih =>
    intro j hj
    have hlt : j < p.length := by omega
    have hih := ih (j + 1) (by omega)
    obtain ⟨hi0, hi1⟩ := hb p[j] (List.getElem_mem hlt)
    obtain ⟨m, hm⟩ : ∃ m : Nat, p[j] = (m : Int) := ⟨p[j].toNat, by omega⟩
    have hg : rd p (j : Int) = (m : Int) := by unfold rd; rw [Int.toNat_natCast, List.getD_eq_getElem?_getD, List.getElem?_eq_getElem hlt]; exact hm
    rw [List.take_succ_eq_append_getElem hlt, hm] at hih
    have eb : befP l (p.take j ++ [(m : Int)]) = befP l (p.take j) ++ (if (m : Int) > 0 then [l.getD (m - 1) ByteArray.empty] else []) := by
      unfold befP
      rw [List.flatMap_append]
      congr 1
      rw [List.flatMap_cons, List.flatMap_nil, List.append_nil]
      split
      · rw [show ((m : Int) - 1).toNat = m - 1 by omega]
      · rfl
    have eh : behP l (p.take j ++ [(m : Int)]) = behP l (p.take j) ++ (if m + 1 < l.length then [l.getD (m + 1) ByteArray.empty] else []) := by
      unfold behP
      rw [List.flatMap_append]
      congr 1
      rw [List.flatMap_cons, List.flatMap_nil, List.append_nil, show ((m : Int) + 1).toNat = m + 1 by omega]
      by_cases h : m + 1 < l.length
      · rw [if_pos h, if_pos (by omega)]
      · rw [if_neg h, if_neg (by omega)]
    rw [eb, eh] at hih
    have l1 := befP_le l (p.take j)
    have l2 := behP_le l (p.take j)
    rw [List.length_take] at l1 l2
    refine Ev.succ ?_
    have g1 : ((j : Int) < (p.length : Int)) = True := eq_true (by omega)
    have g2 : ((befP l (p.take j)).length < 8796093022208) = True := eq_true (by omega)
    have g3 : ((behP l (p.take j)).length < 8796093022208) = True := eq_true (by omega)
    simp only [impl_ContextsOf.l0, g1, if_true, nat_nonneg, hg, g2, g3, Option.bind_some, wrap_succ (show j < 4611686018427387904 by omega), wrap_succ (show m < 4611686018427387904 by omega), rdSx]
    by_cases h0 : 0 < m
    · have g4 : ((m : Int) > 0) = True := eq_true (by omega)
      have g5 : (((m - 1 : Nat) : Int) < (l.length : Int)) = True := eq_true (by omega)
      simp only [g4, if_true, wrap_pred h0 (show m < 4611686018427387904 by omega), nat_nonneg, g5, rdSx]
      rw [if_pos (by omega)] at hih
      by_cases h3 : m + 1 < l.length
      · rw [if_pos h3] at hih
        simp only [show (((m + 1 : Nat) : Int) < (l.length : Int)) = True from eq_true (by omega), if_true]
        exact hih
      · rw [if_neg h3, List.append_nil] at hih
        simp only [show (((m + 1 : Nat) : Int) < (l.length : Int)) = False from eq_false (by omega), if_false]
        exact hih
    · have g4 : ((m : Int) > 0) = False := eq_false (by omega)
      simp only [g4, if_false]
      rw [if_neg (by omega), List.append_nil] at hih
      by_cases h3 : m + 1 < l.length
      · rw [if_pos h3] at hih
        simp only [show (((m + 1 : Nat) : Int) < (l.length : Int)) = True from eq_true (by omega), if_true]
        exact hih
      · rw [if_neg h3, List.append_nil] at hih
        simp only [show (((m + 1 : Nat) : Int) < (l.length : Int)) = False from eq_false (by omega), if_false]
        exact hih
/-- The texts beside the hits among the first j tokens. -/
def befM (l : List ByteArray) (g : ByteArray) (j : Nat) (x : List UInt8) : Prop := ∃ m, m < j ∧ hit g (l.getD m ByteArray.empty) = true ∧ 0 < m ∧ ky (l.getD (m - 1) ByteArray.empty) = x
def behM (l : List ByteArray) (g : ByteArray) (j : Nat) (x : List UInt8) : Prop := ∃ m, m < j ∧ hit g (l.getD m ByteArray.empty) = true ∧ m + 1 < l.length ∧ ky (l.getD (m + 1) ByteArray.empty) = x
theorem befM_succ (l : List ByteArray) (g : ByteArray) (j : Nat) (x : List UInt8) : befM l g (j + 1) x ↔ befM l g j x ∨ hit g (l.getD j ByteArray.empty) = true ∧ 0 < j ∧ ky (l.getD (j - 1) ByteArray.empty) = x := by
  constructor
  · rintro ⟨m, h1, h2⟩
    by_cases he : m = j
    · subst he; exact .inr h2
    · exact .inl ⟨m, by omega, h2⟩
  · rintro (⟨m, h1, h2⟩ | h)
    · exact ⟨m, by omega, h2⟩
    · exact ⟨j, by omega, h⟩
theorem behM_succ (l : List ByteArray) (g : ByteArray) (j : Nat) (x : List UInt8) : behM l g (j + 1) x ↔ behM l g j x ∨ hit g (l.getD j ByteArray.empty) = true ∧ j + 1 < l.length ∧ ky (l.getD (j + 1) ByteArray.empty) = x := by
  constructor
  · rintro ⟨m, h1, h2⟩
    by_cases he : m = j
    · subst he; exact .inr h2
    · exact .inl ⟨m, by omega, h2⟩
  · rintro (⟨m, h1, h2⟩ | h)
    · exact ⟨m, by omega, h2⟩
    · exact ⟨j, by omega, h⟩
theorem specCtx_l (l : List ByteArray) (g : ByteArray) (hl : l.length ≤ 120) : ∀ d j (b h : List ByteArray), j + d = l.length → upB b → upB h → b.length ≤ j → h.length ≤ j → (∀ x, x ∈ b.map ky ↔ befM l g j x) → (∀ x, x ∈ h.map ky ↔ behM l g j x) →
    ∃ rb rh, Ev (fun k => spec_ContextsOf.l k l g d j b h) (rb, rh) ∧ upB rb ∧ upB rh ∧ rb.length ≤ l.length ∧ rh.length ≤ l.length ∧ (∀ x, x ∈ rb.map ky ↔ befM l g l.length x) ∧ (∀ x, x ∈ rh.map ky ↔ behM l g l.length x) := by
  intro d
  induction d with
  | zero =>
    intro j b h hj ub uh lb lh mb mh
    have hj' : j = l.length := by omega
    subst hj'
    exact ⟨b, h, Ev.now _, ub, uh, lb, lh, mb, mh⟩
  | succ d ih =>
    intro j b h hj ub uh lb lh mb mh
    by_cases hg : (l.getD j ByteArray.empty).toList = g.toList
    · have hh : hit g (l.getD j ByteArray.empty) = true := decide_eq_true hg
      obtain ⟨b', eb, ub', lb', mb'⟩ : ∃ b', Ev (fun k => if 0 < j then spec_ctPut.f k b (l.getD (j - 1) ByteArray.empty) else some b) b' ∧ upB b' ∧ b'.length ≤ j + 1 ∧ ∀ x, x ∈ b'.map ky ↔ befM l g (j + 1) x := by
        by_cases h0 : 0 < j
        · obtain ⟨q, e1, e2, e3, e4⟩ := ctPut_ev b (l.getD (j - 1) ByteArray.empty) (by omega) ub
          refine ⟨q, by simpa only [if_pos h0] using e1, e2, by omega, fun x => ?_⟩
          rw [e3, mb, befM_succ]
          exact or_congr Iff.rfl ⟨fun e => ⟨hh, h0, e.symm⟩, fun e => e.2.2.symm⟩
        · refine ⟨b, by simp only [if_neg h0]; exact Ev.now _, ub, by omega, fun x => ?_⟩
          rw [mb, befM_succ]
          exact ⟨.inl, fun e => e.elim id (fun e2 => absurd e2.2.1 h0)⟩
      obtain ⟨h', eh, uh', lh', mh'⟩ : ∃ h', Ev (fun k => if j + 1 < l.length then spec_ctPut.f k h (l.getD (j + 1) ByteArray.empty) else some h) h' ∧ upB h' ∧ h'.length ≤ j + 1 ∧ ∀ x, x ∈ h'.map ky ↔ behM l g (j + 1) x := by
        by_cases h0 : j + 1 < l.length
        · obtain ⟨q, e1, e2, e3, e4⟩ := ctPut_ev h (l.getD (j + 1) ByteArray.empty) (by omega) uh
          refine ⟨q, by simpa only [if_pos h0] using e1, e2, by omega, fun x => ?_⟩
          rw [e3, mh, behM_succ]
          exact or_congr Iff.rfl ⟨fun e => ⟨hh, h0, e.symm⟩, fun e => e.2.2.symm⟩
        · refine ⟨h, by simp only [if_neg h0]; exact Ev.now _, uh, by omega, fun x => ?_⟩
          rw [mh, behM_succ]
          exact ⟨.inl, fun e => e.elim id (fun e2 => absurd e2.2.1 h0)⟩
      obtain ⟨rb, rh, f1, f2⟩ := ih (j + 1) b' h' (by omega) ub' uh' lb' lh' mb' mh'
      refine ⟨rb, rh, ?_, f2⟩
      simp only [spec_ContextsOf.l, if_pos hg]
      exact Ev.bind eb (Ev.bind eh f1)
    · have hh : ¬ hit g (l.getD j ByteArray.empty) = true := fun e => hg (of_decide_eq_true e)
      obtain ⟨rb, rh, f1, f2⟩ := ih (j + 1) b h (by omega) ub uh (by omega) (by omega) (fun x => by rw [mb, befM_succ]; exact ⟨.inl, fun e => e.elim id (fun e2 => absurd e2.1 hh)⟩) (fun x => by rw [mh, behM_succ]; exact ⟨.inl, fun e => e.elim id (fun e2 => absurd e2.1 hh)⟩)
      refine ⟨rb, rh, ?_, f2⟩
      simp only [spec_ContextsOf.l, if_neg hg]
      exact f1
theorem ctx_ev (l : List ByteArray) (g : ByteArray) (hl : l.length < 4611686018427387904) (hz : TSz l) (hg : g.size < 4611686018427387904) : ∃ r : List ByteArray × List ByteArray × Bool, Ev (fun k => spec_ContextsOf.f k l g) r ∧ Ev (fun k => impl_ContextsOf.f k l g) r ∧ r.1.length ≤ l.length ∧ r.2.1.length ≤ l.length := by
  unfold spec_ContextsOf.f impl_ContextsOf.f
  rcases Bool.eq_false_or_eq_true (tokB l) with h | h
  · rcases Bool.eq_false_or_eq_true (glossB g) with h2 | h2
    · have h120 := tokB_len h
      obtain ⟨rb, rh, f1, f2, f3, f4, f5, f6, f7⟩ := specCtx_l l g h120 l.length 0 [] [] (by omega) List.Pairwise.nil List.Pairwise.nil (by simp) (by simp) (fun x => ⟨fun h => by simp at h, fun ⟨m, h, _⟩ => by omega⟩) (fun x => ⟨fun h => by simp at h, fun ⟨m, h, _⟩ => by omega⟩)
      have hpl := plcs_length l g l.length 0 []
      have hpm := fun i => plcs_mem l g l.length 0 [] i
      have hpb : ∀ i, i ∈ plcs l g l.length 0 [] → 0 ≤ i ∧ i < l.length := fun i hi => by
        rcases (hpm i).1 hi with h | ⟨m, _, h4, h5, _⟩
        · simp at h
        · omega
      have hpe := placesOf_eq l g (by omega)
      generalize hP : plcs l g l.length 0 [] = P at *
      simp only [List.length_nil, Nat.zero_add] at hpl
      obtain ⟨db, d1, d2, d3, _⟩ := distinct_up (befP l P) (by have := befP_le l P; omega)
      obtain ⟨dh, e1, e2, e3, _⟩ := distinct_up (behP l P) (by have := behP_le l P; omega)
      have hb : rb = db := up_unique f2 d2 fun x => by
        rw [f6, d3]
        constructor
        · rintro ⟨m, h3, h4, h5, h6⟩
          refine List.mem_map.2 ⟨_, List.mem_flatMap.2 ⟨(m : Int), (hpm _).2 (.inr ⟨m, by omega, by omega, rfl, h4⟩), ?_⟩, h6⟩
          rw [if_pos (by omega), show ((m : Int) - 1).toNat = m - 1 by omega]
          exact List.mem_singleton.2 rfl
        · intro hx
          obtain ⟨t, ht, hk⟩ := List.mem_map.1 hx
          obtain ⟨i, hi, hti⟩ := List.mem_flatMap.1 ht
          rcases (hpm i).1 hi with h3 | ⟨m, _, h4, rfl, h6⟩
          · simp at h3
          · by_cases h7 : (m : Int) > 0
            · rw [if_pos h7, List.mem_singleton, show ((m : Int) - 1).toNat = m - 1 by omega] at hti
              exact ⟨m, by omega, h6, by omega, by rw [← hti]; exact hk⟩
            · rw [if_neg h7] at hti; simp at hti
      have hh : rh = dh := up_unique f3 e2 fun x => by
        rw [f7, e3]
        constructor
        · rintro ⟨m, h3, h4, h5, h6⟩
          refine List.mem_map.2 ⟨_, List.mem_flatMap.2 ⟨(m : Int), (hpm _).2 (.inr ⟨m, by omega, by omega, rfl, h4⟩), ?_⟩, h6⟩
          rw [if_pos (by omega), show ((m : Int) + 1).toNat = m + 1 by omega]
          exact List.mem_singleton.2 rfl
        · intro hx
          obtain ⟨t, ht, hk⟩ := List.mem_map.1 hx
          obtain ⟨i, hi, hti⟩ := List.mem_flatMap.1 ht
          rcases (hpm i).1 hi with h3 | ⟨m, _, h4, rfl, h6⟩
          · simp at h3
          · by_cases h7 : (m : Int) + 1 < l.length
            · rw [if_pos h7, List.mem_singleton, show ((m : Int) + 1).toNat = m + 1 by omega] at hti
              exact ⟨m, by omega, h6, by omega, by rw [← hti]; exact hk⟩
            · rw [if_neg h7] at hti; simp at hti
      refine ⟨(rb, rh, true), Ev.bind (ctAsked_ev l g hl hz hg) ?_, Ev.bind (areTokens_ev l hz) ?_, f4, f5⟩
      · simp only [h, h2, Bool.and_self, if_true]
        exact Ev.bind f1 (Ev.now _)
      · simp only [h, if_true]
        refine Ev.bind (isGloss_ev g hg) ?_
        refine Ev.succ ?_
        simp only [impl_ContextsOf.j0, h2, Bool.not_true, Bool.false_eq_true, if_false, hpe, Option.bind_some]
        rw [hb, hh]
        have hc := implCtx_l0 l P h120 (by omega) hpb db dh d1 e1 P.length 0 (by omega)
        rw [List.take_zero] at hc
        exact hc
    · refine ⟨([], [], false), Ev.bind (ctAsked_ev l g hl hz hg) (by simp only [h, h2, Bool.and_false, Bool.false_eq_true, if_false]; exact Ev.now _), Ev.bind (areTokens_ev l hz) ?_, by simp, by simp⟩
      simp only [h, if_true]
      refine Ev.bind (isGloss_ev g hg) ?_
      refine Ev.succ ?_
      simp only [impl_ContextsOf.j0, h2, Bool.not_false, if_true]
      exact Ev.now _
  · refine ⟨([], [], false), Ev.bind (ctAsked_ev l g hl hz hg) (by simp only [h, Bool.false_and, Bool.false_eq_true, if_false]; exact Ev.now _), Ev.bind (areTokens_ev l hz) ?_, by simp, by simp⟩
    simp only [h, Bool.false_eq_true, if_false]
    refine Ev.succ ?_
    simp only [impl_ContextsOf.j0, if_true]
    exact Ev.now _

theorem FnExactContextsOf : laws_FnExactContextsOf.Pure := by
  intro l g h hz hg
  refine Ev.rounds ?_
  unfold laws_FnExactContextsOf.f
  by_cases h00 : (g.size : Int) > 1048576
  · simp only [eq_true h00, if_true]
    exact Ev.now _
  simp only [eq_false h00, if_false]
  obtain ⟨r, hb, hr⟩ := szStringS_ev l h hz
  refine Ev.bind hr ?_
  by_cases h0 : r < 0
  · simp only [eq_true h0, if_true]
    exact Ev.now _
  simp only [eq_false h0, if_false]
  have hb' := hb (by omega)
  obtain ⟨R, hs, hi, hle1, hle2⟩ := ctx_ev l g (by omega) hz (by omega)
  have hl1 : R.1.length < 4611686018427387904 := by omega
  have hl2 : R.2.1.length < 4611686018427387904 := by omega
  refine Ev.bind (toStringS_ev l h) ?_
  refine Ev.bind hs ?_
  refine Ev.bind (toStringS_ev l h) ?_
  refine Ev.bind hi ?_
  refine Ev.bind (eqStringS_ev _ hl1) ?_
  simp only [if_true]
  refine Ev.bind (eqStringS_ev _ hl2) ?_
  simp only [bne_self_eq_false, if_true]
  refine Ev.succ ?_
  simp only [laws_FnExactContextsOf.j0, Bool.false_eq_true, if_false]
  refine Ev.bind (toStringS_ev l h) ?_
  refine Ev.bind (eqStringS_ev _ (by omega)) ?_
  simp only [if_true]
  refine Ev.bind (markStringS_ev _ 1 (by decide) (by omega)) ?_
  simp only [show (1 + (l.length : Int) < 0) = False from eq_false (by omega), if_false]
  refine Ev.bind (eqStringS_ev _ hl1) ?_
  simp only [if_true]
  refine Ev.bind (eqStringS_ev _ hl2) ?_
  simp only [bne_self_eq_false, if_true]
  refine Ev.succ ?_
  simp only [laws_FnExactContextsOf.j1, Bool.false_eq_true, if_false]
  refine Ev.bind (markStringS_ev _ 1 (by decide) (by omega)) ?_
  refine Ev.bind (markStringS_ev _ _ (by omega) (by omega)) ?_
  refine Ev.bind (heldStringS_ev _ 1 (by decide) (by omega)) ?_
  simp only [show (1 + (R.1.length : Int) < 0) = False from eq_false (by omega), if_false]
  refine Ev.bind (heldStringS_ev _ _ (by omega) (by omega)) ?_
  simp only [show (1 + (R.1.length : Int) + (R.2.1.length : Int) < 0) = False from eq_false (by omega), if_false, if_true]
  refine Ev.bind (toStringS_ev l h) ?_
  refine Ev.bind hi ?_
  refine Ev.bind (eqStringS_ev _ hl1) ?_
  simp only [if_true]
  refine Ev.bind (eqStringS_ev _ hl2) ?_
  simp only [bne_self_eq_false, if_true]
  refine Ev.succ ?_
  simp only [laws_FnExactContextsOf.j2, Bool.false_eq_true, if_false]
  refine Ev.bind (heldStringS_ev _ 1 (by decide) (by omega)) ?_
  simp only [show (1 + (R.1.length : Int) < 0) = False from eq_false (by omega), if_false]
  refine Ev.bind (heldStringS_ev _ _ (by omega) (by omega)) ?_
  simp only [show (1 + (R.1.length : Int) + (R.2.1.length : Int) < 0) = False from eq_false (by omega), if_false, if_true]
  exact Ev.now _
end Go.Proofs.Ytfndkjklphajmaa.Pure
