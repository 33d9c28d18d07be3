/- For all texts and lengths, the program's RichestWindow returns what the reference's RichestWindow returns, and leaves the list alone. No condition. -/
import Derived.Test.YtfndkjklphajmaaQImplAreTokens
import Derived.Test.YtfndkjklphajmaaQImplDistinctString
import Derived.Test.YtfndkjklphajmaaQImplHasOnly
import Derived.Test.YtfndkjklphajmaaQImplIsGloss
import Derived.Test.YtfndkjklphajmaaQImplIsWordOf
import Derived.Test.YtfndkjklphajmaaQImplRichestWindow
import Derived.Test.YtfndkjklphajmaaQImplWithin
import Derived.Test.YtfndkjklphajmaaQLawsEqStringS
import Derived.Test.YtfndkjklphajmaaQLawsFnExactRichestWindow
import Derived.Test.YtfndkjklphajmaaQLawsSzStringS
import Derived.Test.YtfndkjklphajmaaQLawsToStringS
import Derived.Test.YtfndkjklphajmaaQSlicesCloneString
import Derived.Test.YtfndkjklphajmaaQSpecCtGood
import Derived.Test.YtfndkjklphajmaaQSpecCtPut
import Derived.Test.YtfndkjklphajmaaQSpecEnGloss
import Derived.Test.YtfndkjklphajmaaQSpecL1In
import Derived.Test.YtfndkjklphajmaaQSpecRichestWindow
import Derived.Test.YtfndkjklphajmaaQStringsIndexByte
import Derived.Test.YtfndkjklphajmaaQ0
import Derived.Test.YtfndkjklphajmaaWWords
import Derived.Lib.SlicesCompact
import Derived.Sort.Walk0
import Derived.Test.YtfndkjklphajmaaGStr
import Derived.Lib.Bytealg
set_option linter.unusedVariables false
set_option linter.unusedSimpArgs false
namespace Go.Proofs.Ytfndkjklphajmaa.Pure
open Go.RowKit Go.Proofs.Ytfndkjklphajmaa.Q Go.Proofs.YtfndkjklphajmaaW.PrintLast Go.Proofs.YtfndkjklphajmaaW.PrintWords
theorem Ev.succ {α : Type} {g : Nat → Option α} {r : α} (h : Ev (fun k => g (k + 1)) r) : Ev g r := Ev.step (fun _ => rfl) h
theorem Ev.k {α : Type} {g : Nat → Option α} {o : Option α} {r : α} (hg : ∀ k, g k = o) (h : o = some r) : Ev g r := ⟨0, fun k _ => (hg k).trans h⟩
theorem Ev.eq {α : Type} {g : Nat → Option α} {r r' : α} (h : Ev g r) (e : r = r') : Ev g r' := e ▸ h
/-- From round i up to round n. -/
theorem Ev.upto {β : Type} {L : Nat → Nat → Option β} {r : β} {n : Nat} (hend : Ev (fun k => L k n) r)
    (hstep : ∀ j, j < n → Ev (fun k => L k (j + 1)) r → Ev (fun k => L k j) r) : ∀ i, i ≤ n → Ev (fun k => L k i) r := by
  intro i hi
  obtain ⟨d, hd⟩ : ∃ d, n = i + d := ⟨n - i, by omega⟩
  induction d generalizing i with
  | zero => simp at hd; subst hd; exact hend
  | succ d ih => exact hstep i (by omega) (ih (i + 1) (by omega) (by omega))
/-- A loop that ends early where P fails. -/
theorem Ev.all {β : Type} {L : Nat → Nat → Option β} {P : Nat → Bool} {n : Nat} {a b : β} (hend : Ev (fun k => L k n) a)
    (hyes : ∀ j r, j < n → P j = true → Ev (fun k => L k (j + 1)) r → Ev (fun k => L k j) r) (hno : ∀ j, j < n → P j = false → Ev (fun k => L k j) b) :
    ∀ i, i ≤ n → Ev (fun k => L k i) (if (List.range' i (n - i)).all P then a else b) := by
  intro i hi
  obtain ⟨d, hd⟩ : ∃ d, n = i + d := ⟨n - i, by omega⟩
  induction d generalizing i with
  | zero => simp at hd; subst hd; simpa using hend
  | succ d ih =>
    have h1 : n - i = (n - (i + 1)) + 1 := by omega
    rw [h1, List.range'_succ]
    simp only [List.all_cons]
    rcases Bool.eq_false_or_eq_true (P i) with hP | hP
    · simp only [hP, Bool.true_and]
      exact hyes i _ (by omega) hP (ih (i + 1) (by omega) (by omega))
    · simpa [hP] using hno i (by omega) hP
theorem Ev.all0 {β : Type} {L : Nat → Nat → Option β} {P : Nat → Bool} {n : Nat} {a b : β} (hend : Ev (fun k => L k n) a)
    (hyes : ∀ j r, j < n → P j = true → Ev (fun k => L k (j + 1)) r → Ev (fun k => L k j) r) (hno : ∀ j, j < n → P j = false → Ev (fun k => L k j) b) :
    Ev (fun k => L k 0) (if (List.range n).all P then a else b) := by
  have := Ev.all hend hyes hno 0 (Nat.zero_le _)
  rwa [Nat.sub_zero, ← List.range_eq_range'] at this

theorem wrap_id {x : Int} (h0 : -9223372036854775808 ≤ x) (h1 : x ≤ 9223372036854775807) : wrap64 x = x := by
  unfold wrap64
  omega
theorem wrap_succ {n : Nat} (h : n < 4611686018427387904) : wrap64 ((n : Int) + 1) = ((n + 1 : Nat) : Int) := by
  rw [wrap_id (by omega) (by omega)]
  omega
theorem nat_nonneg (n : Nat) : (0 ≤ (n : Int)) = True := eq_true (Int.natCast_nonneg n)
/-- A copy, element by element, into a row that was made. -/
theorem Ev.copy {α β : Type} (f : α → β) (l : List α) (za : α) (zb : β) (L : Nat → List β → Int → Option (List β))
    (hstep : ∀ (j : Nat) (s r : List β), j < l.length → s.length = l.length → Ev (fun k => L k (s.set j (f (l.getD j za))) ((j + 1 : Nat) : Int)) r → Ev (fun k => L k s (j : Int)) r)
    (hend : ∀ s : List β, s.length = l.length → Ev (fun k => L k s (l.length : Int)) s) : Ev (fun k => L k (List.replicate l.length zb) 0) (l.map f) := by
  have key := Ev.upto (L := fun k j => L k ((l.map f).take j ++ List.replicate (l.length - j) zb) (j : Int)) (r := l.map f) (n := l.length)
    (by
      have h := hend ((l.map f).take l.length ++ List.replicate (l.length - l.length) zb) (by simp)
      refine Ev.eq h ?_
      rw [Nat.sub_self, List.replicate_zero, List.append_nil, List.take_of_length_le (by simp)])
    (by
      intro j hj h
      have hlen : ((l.map f).take j ++ List.replicate (l.length - j) zb).length = l.length := by simp; omega
      refine hstep j _ _ hj hlen ?_
      have e : ((l.map f).take j ++ List.replicate (l.length - j) zb).set j (f (l.getD j za)) = (l.map f).take (j + 1) ++ List.replicate (l.length - (j + 1)) zb := by
        have e1 : l.length - j = (l.length - (j + 1)) + 1 := by omega
        rw [e1, List.replicate_succ, List.set_append_right _ _ (by simp; omega)]
        have e2 : j - ((l.map f).take j).length = 0 := by simp; omega
        rw [e2, List.set_cons_zero, List.take_succ_eq_append_getElem (by simpa using hj)]
        simp [List.getD_eq_getElem?_getD, List.getElem?_eq_getElem hj]
      rw [e]
      exact h)
    0 (Nat.zero_le _)
  simpa using key
/-- What is left of a size, or that it was passed. -/
theorem Ev.sz {L : Nat → Nat → Int → Option Int} {n : Nat}
    (hstep : ∀ (j : Nat) (a : Int), j < n → 0 ≤ a → a ≤ 1048576 → (∃ a', 0 ≤ a' ∧ a' ≤ a ∧ ∀ r, Ev (fun k => L k (j + 1) a') r → Ev (fun k => L k j a) r) ∨ Ev (fun k => L k j a) (-1))
    (hend : ∀ a : Int, 0 ≤ a → a ≤ 1048576 → Ev (fun k => L k n a) a) :
    ∀ (j : Nat), j ≤ n → ∀ a : Int, 0 ≤ a → a ≤ 1048576 → ∃ r, r ≤ a ∧ Ev (fun k => L k j a) r := by
  intro j hj
  obtain ⟨d, hd⟩ : ∃ d, n = j + d := ⟨n - j, by omega⟩
  induction d generalizing j with
  | zero => simp at hd; subst hd; exact fun a h0 h1 => ⟨a, Int.le_refl _, hend a h0 h1⟩
  | succ d ih =>
    intro a h0 h1
    rcases hstep j a (by omega) h0 h1 with ⟨a', h2, h3, h4⟩ | h5
    · obtain ⟨r, h6, h7⟩ := ih (j + 1) (by omega) (by omega) a' h2 (by omega)
      exact ⟨r, by omega, h4 r h7⟩
    · exact ⟨-1, by omega, h5⟩
theorem ltL_trans {a b c : List UInt8} (h : a < b) (h2 : b < c) : a < c := List.lt_trans h h2
theorem ltL_irrefl (a : List UInt8) : ¬ a < a := List.lt_irrefl a
theorem leL_or {a b : List UInt8} (h : a ≤ b) : a < b ∨ a = b := by
  have h1 := Go.Proofs.YtfndkjklphajmaaW.GStr.less_total a b
  rw [Go.Proofs.bytesLess_eq, Go.Proofs.bytesLess_eq] at h1
  have hb : ¬ b < a := List.not_lt.2 h
  rw [decide_eq_false hb] at h1
  simpa using h1
theorem leL_trans {a b c : List UInt8} (h : a ≤ b) (h2 : b ≤ c) : a ≤ c := List.le_trans h h2
theorem leL_total (a b : List UInt8) : a ≤ b ∨ b ≤ a := List.le_total a b
theorem compactUpTo_facts (d : Array (List UInt8)) (hs : ∀ i j, i < j → j < d.size → d[i]! ≤ d[j]!) : ∀ m, m ≤ d.size → (Lib.compactUpTo d m).Pairwise (· < ·) ∧ ∀ x, x ∈ Lib.compactUpTo d m ↔ ∃ i, i < m ∧ d[i]! = x := by
  intro m
  induction m with
  | zero => intro _; exact ⟨by simp [Lib.compactUpTo], fun x => by simp [Lib.compactUpTo]⟩
  | succ m ih =>
    intro hm
    obtain ⟨h1, h2⟩ := ih (by omega)
    rw [Lib.compactUpTo_succ]
    rcases Bool.eq_false_or_eq_true (Lib.keeps d m) with hk | hk
    · rw [if_pos hk]
      have hlt : ∀ x, x ∈ Lib.compactUpTo d m → x < d[m]! := by
        intro x hx
        obtain ⟨i, hi, rfl⟩ := (h2 x).1 hx
        have hne : d[m]! ≠ d[m - 1]! := by
          have := of_decide_eq_true hk
          exact this.resolve_left (by omega)
        have h3 : d[m - 1]! < d[m]! := (leL_or (hs (m - 1) m (by omega) (by omega))).resolve_right (fun e => hne e.symm)
        by_cases he : i = m - 1
        · rw [he]; exact h3
        · rcases leL_or (hs i (m - 1) (by omega) (by omega)) with h4 | h4
          · exact ltL_trans h4 h3
          · rw [h4]; exact h3
      refine ⟨List.pairwise_append.2 ⟨h1, List.pairwise_singleton _ _, fun a ha b hb => ?_⟩, fun x => ?_⟩
      · rw [List.mem_singleton.1 hb]; exact hlt a ha
      · rw [List.mem_append, h2, List.mem_singleton]
        constructor
        · rintro (⟨i, hi, e⟩ | e)
          · exact ⟨i, by omega, e⟩
          · exact ⟨m, by omega, e.symm⟩
        · rintro ⟨i, hi, e⟩
          by_cases he : i = m
          · exact .inr (by rw [← e, he])
          · exact .inl ⟨i, by omega, e⟩
    · rw [hk]
      simp only [Bool.false_eq_true, if_false, List.append_nil]
      refine ⟨h1, fun x => ?_⟩
      rw [h2]
      have hne := of_decide_eq_false hk
      have hm0 : m ≠ 0 := fun e => hne (.inl e)
      have he : d[m]! = d[m - 1]! := Classical.byContradiction fun e => hne (.inr e)
      constructor
      · rintro ⟨i, hi, e⟩; exact ⟨i, by omega, e⟩
      · rintro ⟨i, hi, e⟩
        by_cases h5 : i = m
        · exact ⟨m - 1, by omega, by rw [← e, h5, he]⟩
        · exact ⟨i, by omega, e⟩
theorem rising_nodup {l : List (List UInt8)} (h : l.Pairwise (· < ·)) : l.Nodup :=
  List.Pairwise.imp (S := fun a b : List UInt8 => a ≠ b) (fun {a b} (hlt : a < b) (e : a = b) => ltL_irrefl b (by rw [e] at hlt; exact hlt)) h
theorem same_length {l m : List (List UInt8)} (hl : l.Pairwise (· < ·)) (hm : m.Pairwise (· < ·)) (h : ∀ x, x ∈ l ↔ x ∈ m) : l.length = m.length :=
  ((List.perm_ext_iff_of_nodup (rising_nodup hl) (rising_nodup hm)).2 h).length_eq
theorem distinct_facts (u : List (List UInt8)) : (Lib.compact (u.mergeSort fun x y => decide (x ≤ y))).Pairwise (· < ·) ∧ ∀ x, x ∈ Lib.compact (u.mergeSort fun x y => decide (x ≤ y)) ↔ x ∈ u := by
  have hp : (u.mergeSort fun x y => decide (x ≤ y)).Perm u := List.mergeSort_perm _ _
  have hs : (u.mergeSort fun x y => decide (x ≤ y)).Pairwise (fun x y => decide (x ≤ y) = true) := List.pairwise_mergeSort (by intro a b c h1 h2; exact decide_eq_true (leL_trans (of_decide_eq_true h1) (of_decide_eq_true h2))) (by intro a b; rcases leL_total a b with h | h <;> simp [h]) u
  generalize (u.mergeSort fun x y => decide (x ≤ y)) = z at *
  have hg := List.pairwise_iff_getElem.1 hs
  have := compactUpTo_facts z.toArray (by
    intro i j hij hj
    have hj' : j < z.length := by simpa using hj
    have := hg i j (by omega) hj' hij
    simpa [getElem!_pos, hj', show i < z.length by omega] using this) z.length (by simp)
  refine ⟨this.1, fun x => ?_⟩
  rw [← hp.mem_iff]
  refine (this.2 x).trans ?_
  rw [List.mem_iff_getElem]
  constructor
  · rintro ⟨i, hi, e⟩
    exact ⟨i, hi, by simpa [getElem!_pos, hi] using e⟩
  · rintro ⟨i, hi, e⟩
    exact ⟨i, hi, by simpa [getElem!_pos, hi] using e⟩
theorem rdSx (l : List ByteArray) (j : Nat) : rdOf ByteArray.empty l (j : Int) = l.getD j ByteArray.empty := by simp [rdOf]
theorem toStringS_ev (l : List ByteArray) (hl : l.length * 16 ≤ 140737488351232) : Ev (fun k => laws_toStringS.f k l) l := by
  unfold laws_toStringS.f
  simp only [nat_nonneg, if_true, Int.toNat_natCast, show (l.length ≤ 17592186044416) = True from eq_true (by omega)]
  have key := Ev.copy (fun x : ByteArray => x) l ByteArray.empty (⟨#[]⟩ : ByteArray) (fun k s j => laws_toStringS.l0 k l s j)
    (by
      intro j s r hj hs h
      refine Ev.succ ?_
      have h1 : ((j : Int) < (l.length : Int)) = True := eq_true (by omega)
      simp only [laws_toStringS.l0, h1, if_true, nat_nonneg, hs, Int.toNat_natCast, wrap_succ (show j < 4611686018427387904 by omega), rdSx]
      exact h)
    (by
      intro s hs
      refine Ev.succ ?_
      simp only [laws_toStringS.l0, Int.lt_irrefl, if_false]
      exact Ev.now _)
  simpa using key
theorem szStringS_ev (l : List ByteArray) (hl : l.length * 16 ≤ 140737488351232) (hz : ∀ y, y ∈ l → y.size ≤ 140737488351232) : ∃ r, (0 ≤ r → l.length ≤ 1048576) ∧ Ev (fun k => laws_szStringS.f k l 1048576) r := by
  unfold laws_szStringS.f
  rw [wrap_id (x := 1048576 - (l.length : Int)) (by omega) (by omega)]
  by_cases h0 : (1048576 : Int) - l.length < 0
  · refine ⟨-1, fun h => absurd h (by decide), ?_⟩
    simp only [eq_true h0, if_true]
    exact Ev.now _
  · obtain ⟨r, _, hr⟩ := Ev.sz (L := fun k j a => laws_szStringS.l0 k l a (j : Int)) (n := l.length)
      (by
        intro j a hj ha0 ha1
        have h1 : ((j : Int) < (l.length : Int)) = True := eq_true (by omega)
        have hs := hz (l.getD j ByteArray.empty) (by rw [List.getD_eq_getElem?_getD, List.getElem?_eq_getElem hj]; exact List.getElem_mem hj)
        by_cases hc : a - ((l.getD j ByteArray.empty).size : Int) < 0
        · refine .inr (Ev.succ ?_)
          simp only [laws_szStringS.l0, h1, if_true, nat_nonneg, rdSx, wrap_id (x := a - ((l.getD j ByteArray.empty).size : Int)) (by omega) (by omega), eq_true hc]
          exact Ev.now _
        · refine .inl ⟨a - ((l.getD j ByteArray.empty).size : Int), by omega, by omega, fun r h => Ev.succ ?_⟩
          simp only [laws_szStringS.l0, h1, if_true, nat_nonneg, rdSx, wrap_id (x := a - ((l.getD j ByteArray.empty).size : Int)) (by omega) (by omega), eq_false hc, if_false, wrap_succ (show j < 4611686018427387904 by omega)]
          exact h)
      (by
        intro a _ _
        refine Ev.succ ?_
        simp only [laws_szStringS.l0, Int.lt_irrefl, if_false]
        exact Ev.now _)
      0 (Nat.zero_le _) (1048576 - (l.length : Int)) (by omega) (by omega)
    refine ⟨r, fun _ => by omega, ?_⟩
    simp only [eq_false h0, if_false]
    exact hr
theorem eqStringS_ev (l : List ByteArray) (hl : l.length < 4611686018427387904) : Ev (fun k => laws_eqStringS.f k l l) true := by
  unfold laws_eqStringS.f
  simp only [if_true]
  exact Ev.upto (L := fun k j => laws_eqStringS.l0 k l l (j : Int)) (r := true) (n := l.length)
    (by
      refine Ev.succ ?_
      simp only [laws_eqStringS.l0, Int.lt_irrefl, if_false]
      exact Ev.now _)
    (by
      intro j hj h
      refine Ev.succ ?_
      have h1 : ((j : Int) < (l.length : Int)) = True := eq_true (by omega)
      simp only [laws_eqStringS.l0, h1, if_true, nat_nonneg, wrap_succ (show j < 4611686018427387904 by omega)]
      exact h)
    0 (Nat.zero_le _)
def ky (b : ByteArray) : List UInt8 := b.data.toList
def upB (l : List ByteArray) : Prop := l.Pairwise (fun a b => ky a < ky b)
theorem ins_up (l : List ByteArray) (s : ByteArray) (j : Nat) (hu : upB l) (h1 : ∀ x, x ∈ l.take j → ky x < ky s) (h2 : ∀ x, x ∈ l.drop j → ky s < ky x) : upB (l.take j ++ [s] ++ l.drop j) := by
  unfold upB at *
  rw [List.pairwise_append, List.pairwise_append]
  refine ⟨⟨hu.sublist (List.take_sublist _ _), List.pairwise_singleton _ _, fun a ha b hb => by rw [List.mem_singleton.1 hb]; exact h1 a ha⟩, hu.sublist (List.drop_sublist _ _), fun a ha b hb => ?_⟩
  rcases List.mem_append.1 ha with h | h
  · exact ltL_trans (h1 a h) (h2 b hb)
  · rw [List.mem_singleton.1 h]; exact h2 b hb
theorem ins_mem (l : List ByteArray) (s : ByteArray) (j : Nat) (x : List UInt8) : x ∈ (l.take j ++ [s] ++ l.drop j).map ky ↔ x ∈ l.map ky ∨ x = ky s := by
  have e : x ∈ l.map ky ↔ x ∈ (l.take j).map ky ∨ x ∈ (l.drop j).map ky := by
    conv => lhs; rw [← List.take_append_drop j l]
    rw [List.map_append, List.mem_append]
  rw [e, List.map_append, List.map_append, List.mem_append, List.mem_append, List.map_cons, List.map_nil, List.mem_singleton]
  constructor
  · rintro ((h | h) | h)
    · exact .inl (.inl h)
    · exact .inr h
    · exact .inl (.inr h)
  · rintro ((h | h) | h)
    · exact .inl (.inl h)
    · exact .inr h
    · exact .inl (.inr h)
theorem ctPut_l0 (l : List ByteArray) (s : ByteArray) (hl : l.length < 1000000) (hu : upB l) : ∀ d j, j + d = l.length → (∀ x, x ∈ l.take j → ky x < ky s) →
    ∃ r, Ev (fun k => spec_ctPut.l0 k l s (j : Int)) r ∧ upB r ∧ (∀ x, x ∈ r.map ky ↔ x ∈ l.map ky ∨ x = ky s) ∧ r.length ≤ l.length + 1 := by
  intro d
  induction d with
  | zero =>
    intro j hj h1
    have hj' : j = l.length := by omega
    refine ⟨l.take j ++ [s] ++ l.drop j, Ev.succ ?_, ins_up l s j hu h1 (by rw [hj', List.drop_length]; intro x hx; cases hx), ins_mem l s j, by simp; omega⟩
    have g1 : ((j : Int) < (l.length : Int)) = False := eq_false (by omega)
    have g2 : ((j : Int) ≤ (l.length : Int)) = True := eq_true (by omega)
    have g3 : (([] : List ByteArray).length + (l.take j).length < 8796093022208) = True := eq_true (by simp; omega)
    have g4 : (([] ++ l.take j).length + [s].length < 8796093022208) = True := eq_true (by simp; omega)
    have g5 : (([] ++ l.take j ++ [s]).length + (l.drop j).length < 8796093022208) = True := eq_true (by simp; omega)
    simp only [spec_ctPut.l0, g1, g2, if_true, if_false, nat_nonneg, Option.bind_some, Int.toNat_natCast, g3, g4, g5]
    exact Ev.now _
  | succ d ih =>
    intro j hj h1
    have hlt : j < l.length := by omega
    have g1 : ((j : Int) < (l.length : Int)) = True := eq_true (by omega)
    have hg : l.getD j ByteArray.empty = l[j] := by rw [List.getD_eq_getElem?_getD, List.getElem?_eq_getElem hlt]; rfl
    have et : ∀ b : ByteArray, b.toList = ky b := ByteArray.toList_eq
    by_cases h2 : ky l[j] < ky s
    · obtain ⟨r, h3, h4⟩ := ih (j + 1) (by omega) (by
        intro x hx
        rw [List.take_succ_eq_append_getElem hlt] at hx
        rcases List.mem_append.1 hx with h | h
        · exact h1 x h
        · rw [List.mem_singleton.1 h]; exact h2)
      refine ⟨r, Ev.succ ?_, h4⟩
      simp only [spec_ctPut.l0, g1, if_true, nat_nonneg, rdSx, hg, et, bytesLess_eq, decide_eq_true h2, wrap_succ (show j < 4611686018427387904 by omega)]
      exact h3
    · by_cases h3 : ky l[j] = ky s
      · refine ⟨l, Ev.succ ?_, hu, fun x => ⟨fun h => .inl h, fun h => h.elim id (fun e => ?_)⟩, by omega⟩
        · simp only [spec_ctPut.l0, g1, if_true, nat_nonneg, rdSx, hg, et, bytesLess_eq, decide_eq_false h2, Bool.false_eq_true, if_false, eq_true h3]
          exact Ev.now _
        · rw [e, ← h3]; exact List.mem_map.2 ⟨_, List.getElem_mem hlt, rfl⟩
      · have h4 : ky s < ky l[j] := (leL_or (List.not_lt.1 h2)).resolve_right (fun e => h3 e.symm)
        refine ⟨l.take j ++ [s] ++ l.drop j, Ev.succ ?_, ins_up l s j hu h1 ?_, ins_mem l s j, by simp; omega⟩
        · have g2 : ((j : Int) ≤ (l.length : Int)) = True := eq_true (by omega)
          have g3 : (([] : List ByteArray).length + (l.take j).length < 8796093022208) = True := eq_true (by simp; omega)
          have g4 : (([] ++ l.take j).length + [s].length < 8796093022208) = True := eq_true (by simp; omega)
          have g5 : (([] ++ l.take j ++ [s]).length + (l.drop j).length < 8796093022208) = True := eq_true (by simp; omega)
          simp only [spec_ctPut.l0, g1, g2, if_true, nat_nonneg, rdSx, hg, et, bytesLess_eq, decide_eq_false h2, Bool.false_eq_true, if_false, eq_false h3, Option.bind_some, Int.toNat_natCast, g3, g4, g5]
          exact Ev.now _
        · intro x hx
          have hd : (l.drop j).Pairwise (fun a b => ky a < ky b) := hu.sublist (List.drop_sublist _ _)
          rw [List.drop_eq_getElem_cons hlt] at hx hd
          rcases List.mem_cons.1 hx with h | h
          · rw [h]; exact h4
          · exact ltL_trans h4 ((List.pairwise_cons.1 hd).1 x h)
theorem ctPut_ev (l : List ByteArray) (s : ByteArray) (hl : l.length < 1000000) (hu : upB l) : ∃ r, Ev (fun k => spec_ctPut.f k l s) r ∧ upB r ∧ (∀ x, x ∈ r.map ky ↔ x ∈ l.map ky ∨ x = ky s) ∧ r.length ≤ l.length + 1 := by
  unfold spec_ctPut.f
  exact ctPut_l0 l s hl hu l.length 0 (by omega) (by simp)
/-- How many different texts there are. -/
def dlen (u : List ByteArray) : Nat := (Lib.compact ((u.map ky).mergeSort fun x y => decide (x ≤ y))).length
theorem up_dlen (n u : List ByteArray) (hu : upB n) (h : ∀ x, x ∈ n.map ky ↔ x ∈ u.map ky) : n.length = dlen u := by
  have h1 := distinct_facts (u.map ky)
  have h2 : (n.map ky).Pairwise (· < ·) := List.pairwise_map.2 hu
  rw [← List.length_map (f := ky)]
  exact same_length h2 h1.1 (fun x => (h x).trans (h1.2 x).symm)
theorem distinct_dlen (u : List ByteArray) (hl : u.length < 1000000) : ∃ r, impl_distinct_string.f u = some r ∧ r.length = dlen u := by
  unfold impl_distinct_string.f slices_Clone_string.f
  simp only [Option.bind_some, List.length_nil, Nat.zero_add, List.nil_append, eq_true (show u.length < 8796093022208 by omega), if_true]
  refine ⟨_, rfl, ?_⟩
  unfold impl_distinct_string.comp impl_distinct_string.sorted impl_distinct_string.un impl_distinct_string.tb dlen
  rw [List.length_map, List.map_map]
  congr 2
  exact List.map_id'' (fun x => by simp) _
def inB (a b c : Int) : Bool := decide (b ≤ a ∧ a ≤ c)
theorem l1In_eq (a b c : Int) : spec_l1In.f a b c = some (inB a b c) := by
  unfold spec_l1In.f inB
  split <;> simp <;> omega
theorem within_eq (a b c : Int) : impl_within.f a b c = some (inB a b c) := by
  unfold impl_within.f inB
  split <;> simp <;> omega
def capAt (s : ByteArray) (j : Nat) : Bool := decide (65 ≤ bt s j ∧ bt s j ≤ 90)
def glossB (s : ByteArray) : Bool := inB s.size 1 8 && (List.range s.size).all (capAt s)
def caps : ByteArray := ⟨#[65, 66, 67, 68, 69, 70, 71, 72, 73, 74, 75, 76, 77, 78, 79, 80, 81, 82, 83, 84, 85, 86, 87, 88, 89, 90]⟩
theorem caps_all : ((List.range 256).all fun n => decide (Lib.indexByte caps.data.toList n.toUInt8 < 0) == !(decide (65 ≤ n ∧ n ≤ 90))) = true := by decide +kernel
theorem caps_index (b : Int) (h0 : 0 ≤ b) (h1 : b ≤ 255) : (Lib.indexByte caps.data.toList b.toNat.toUInt8 < 0) ↔ ¬ (65 ≤ b ∧ b ≤ 90) := by
  have h := List.all_eq_true.1 caps_all b.toNat (List.mem_range.2 (by omega))
  simp only [beq_iff_eq] at h
  by_cases hc : 65 ≤ b ∧ b ≤ 90
  · have h2 : decide (65 ≤ b.toNat ∧ b.toNat ≤ 90) = true := decide_eq_true (by omega)
    rw [h2] at h
    exact ⟨fun h3 => absurd h3 (of_decide_eq_false h), fun h3 => absurd hc h3⟩
  · have h2 : decide (65 ≤ b.toNat ∧ b.toNat ≤ 90) = false := decide_eq_false (by omega)
    rw [h2] at h
    exact ⟨fun _ => hc, fun _ => of_decide_eq_true h⟩
theorem hasOnly_ev (s : ByteArray) (hs : s.size < 4611686018427387904) : Ev (fun k => impl_hasOnly.f k s caps) ((List.range s.size).all (capAt s)) := by
  unfold impl_hasOnly.f
  refine Ev.eq (Ev.all0 (L := fun k j => impl_hasOnly.l0 k s caps (s.size : Int) (j : Int)) (P := capAt s) (n := s.size) (a := true) (b := false) ?_ ?_ ?_) (by split <;> simp_all)
  · refine Ev.succ ?_
    simp only [impl_hasOnly.l0, Int.lt_irrefl, if_false]
    exact Ev.now _
  · intro j r hj hP h
    refine Ev.succ ?_
    have h1 : ((j : Int) < (s.size : Int)) = True := eq_true (by omega)
    have hb := bt_range s (j : Int)
    have h2 : (Lib.indexByte caps.data.toList (bt s (j : Int)).toNat.toUInt8 < 0) = False := eq_false (fun hc => (caps_index _ hb.1 hb.2).1 hc (of_decide_eq_true hP))
    simp only [impl_hasOnly.l0, strings_IndexByte.f, Option.bind_some, h1, if_true, nat_nonneg, h2, if_false, wrap_succ (show j < 4611686018427387904 by omega)]
    exact h
  · intro j hj hP
    refine Ev.succ ?_
    have h1 : ((j : Int) < (s.size : Int)) = True := eq_true (by omega)
    have hb := bt_range s (j : Int)
    have h2 : (Lib.indexByte caps.data.toList (bt s (j : Int)).toNat.toUInt8 < 0) = True := eq_true ((caps_index _ hb.1 hb.2).2 (of_decide_eq_false hP))
    simp only [impl_hasOnly.l0, strings_IndexByte.f, Option.bind_some, h1, if_true, nat_nonneg, h2]
    exact Ev.now _
theorem isGloss_ev (s : ByteArray) (hs : s.size < 4611686018427387904) : Ev (fun k => impl_IsGloss.f k s) (glossB s) := by
  unfold impl_IsGloss.f impl_isWordOf.f glossB
  refine Ev.bind (a := inB s.size 1 8 && (List.range s.size).all (capAt s)) ?_ (Ev.now _)
  simp only [within_eq, Option.bind_some]
  rcases Bool.eq_false_or_eq_true (inB s.size 1 8) with h | h
  · simp only [h, if_true, Bool.true_and]
    exact Ev.bind (hasOnly_ev s hs) (Ev.now _)
  · simp only [h]
    exact Ev.now _
theorem enGloss_ev (s : ByteArray) (hs : s.size < 4611686018427387904) : Ev (fun k => spec_enGloss.f k s) (glossB s) := by
  unfold spec_enGloss.f
  refine Ev.eq (Ev.all0 (L := fun k j => spec_enGloss.l0 k s (j : Int)) (P := capAt s) (n := s.size) (a := inB s.size 1 8) (b := false) ?_ ?_ ?_) (by unfold glossB; split <;> simp_all)
  · refine Ev.succ ?_
    simp only [spec_enGloss.l0, Int.lt_irrefl, if_false, l1In_eq, Option.bind_some]
    exact Ev.now _
  · intro j r hj hP h
    refine Ev.succ ?_
    have h1 : ((j : Int) < (s.size : Int)) = True := eq_true (by omega)
    have hP' := of_decide_eq_true hP
    simp only [spec_enGloss.l0, h1, if_true, nat_nonneg, show (bt s (j : Int) < 65) = False from eq_false (by omega), show (bt s (j : Int) > 90) = False from eq_false (by omega), if_false, wrap_succ (show j < 4611686018427387904 by omega)]
    exact h
  · intro j hj hP
    refine Ev.succ ?_
    have h1 : ((j : Int) < (s.size : Int)) = True := eq_true (by omega)
    have hP' := of_decide_eq_false hP
    simp only [spec_enGloss.l0, h1, if_true, nat_nonneg]
    by_cases h2 : bt s (j : Int) < 65
    · simp only [eq_true h2, if_true]
      exact Ev.now _
    · simp only [eq_false h2, if_false, show (bt s (j : Int) > 90) = True from eq_true (by omega), if_true]
      exact Ev.now _
def tokB (l : List ByteArray) : Bool := decide (l.length ≤ 120) && l.all glossB
theorem tokB_len {l : List ByteArray} (h : tokB l = true) : l.length ≤ 120 := by
  unfold tokB at h
  rw [Bool.and_eq_true] at h
  exact of_decide_eq_true h.1
/-- Every text is short enough. -/
def TSz (l : List ByteArray) : Prop := ∀ y, y ∈ l → y.size ≤ 140737488351232
theorem tokAll_ev : ∀ l : List ByteArray, TSz l → Ev (fun k => impl_areTokens.all k l) (l.all glossB)
  | [], _ => Ev.now _
  | s :: l, hz => by
    unfold impl_areTokens.all
    have hs := hz s (List.mem_cons_self ..)
    refine Ev.bind (isGloss_ev s (by omega)) ?_
    refine Ev.bind (tokAll_ev l (fun y hy => hz y (List.mem_cons_of_mem _ hy))) ?_
    rw [List.all_cons]
    exact Ev.now _
theorem areTokens_ev (l : List ByteArray) (hz : TSz l) : Ev (fun k => impl_areTokens.f k l) (tokB l) := by
  unfold impl_areTokens.f tokB
  by_cases h : l.length ≤ 120
  · have h1 : ((l.length : Int) ≤ 120) = True := eq_true (by omega)
    simp only [h1, if_true, h, decide_true, Bool.true_and]
    exact tokAll_ev l hz
  · have h1 : ((l.length : Int) ≤ 120) = False := eq_false (by omega)
    simp only [h1, if_false, h, decide_false, Bool.false_and]
    exact Ev.now _
theorem all_range (l : List ByteArray) (p : ByteArray → Bool) : ((List.range l.length).all fun i => p (l.getD i ByteArray.empty)) = l.all p := by
  rw [Bool.eq_iff_iff, List.all_eq_true, List.all_eq_true]
  constructor
  · intro h x hx
    obtain ⟨i, hi, rfl⟩ := List.getElem_of_mem hx
    have := h i (List.mem_range.2 hi)
    simpa [List.getD_eq_getElem?_getD, List.getElem?_eq_getElem hi] using this
  · intro h i hi
    have hi' := List.mem_range.1 hi
    have := h l[i] (List.getElem_mem hi')
    simpa [List.getD_eq_getElem?_getD, List.getElem?_eq_getElem hi'] using this
theorem ctGood_ev (l : List ByteArray) (hl : l.length < 4611686018427387904) (hz : TSz l) : Ev (fun k => spec_ctGood.f k l) (tokB l) := by
  unfold spec_ctGood.f
  have hg : ∀ j, j < l.length → (l.getD j ByteArray.empty).size < 4611686018427387904 := by
    intro j hj
    have := hz (l.getD j ByteArray.empty) (by rw [List.getD_eq_getElem?_getD, List.getElem?_eq_getElem hj]; exact List.getElem_mem hj)
    omega
  have key := Ev.all0 (L := fun k j => spec_ctGood.l0 k l l (l.length : Int) (j : Int)) (P := fun i => glossB (l.getD i ByteArray.empty)) (n := l.length) (a := decide (l.length ≤ 120)) (b := false)
    (by
      refine Ev.succ ?_
      simp only [spec_ctGood.l0, Int.lt_irrefl, if_false]
      refine Ev.eq (Ev.now _) ?_
      rw [decide_eq_decide]
      omega)
    (by
      intro j r hj hP h
      refine Ev.succ ?_
      have h1 : ((j : Int) < (l.length : Int)) = True := eq_true (by omega)
      simp only [spec_ctGood.l0, h1, if_true, nat_nonneg, rdSx, wrap_succ (show j < 4611686018427387904 by omega)]
      refine Ev.bind (enGloss_ev _ (hg j hj)) ?_
      simp only [hP, if_true]
      exact h)
    (by
      intro j hj hP
      refine Ev.succ ?_
      have h1 : ((j : Int) < (l.length : Int)) = True := eq_true (by omega)
      simp only [spec_ctGood.l0, h1, if_true, nat_nonneg, rdSx]
      refine Ev.bind (enGloss_ev _ (hg j hj)) ?_
      simp only [hP]
      exact Ev.now _)
  refine Ev.eq key ?_
  rw [all_range]
  unfold tokB
  cases l.all glossB <;> simp
end Go.Proofs.Ytfndkjklphajmaa.Pure
namespace Go.Proofs.Ytfndkjklphajmaa.Pure
open Go.RowKit Go.Proofs.Ytfndkjklphajmaa.Q Go.Proofs.YtfndkjklphajmaaW.PrintWords Go.Proofs.YtfndkjklphajmaaW.PrintLast

/-- n texts from place i on. -/
def win (l : List ByteArray) (n i : Nat) : List ByteArray := (l.take (i + n)).drop i
theorem win_length (l : List ByteArray) (n i : Nat) (h : i + n ≤ l.length) : (win l n i).length = n := by unfold win; rw [List.length_drop, List.length_take]; omega
def scanW (l : List ByteArray) (n : Nat) : Nat → Nat → Int → Int → Int × Int
  | 0, _, b, m => (b, m)
  | d + 1, i, b, m => if (dlen (win l n i) : Int) > m then scanW l n d (i + 1) (i : Int) (dlen (win l n i) : Int) else scanW l n d (i + 1) b m
theorem dlen_pos (u : List ByteArray) (h : 0 < u.length) : 0 < dlen u := by
  have h1 := (distinct_facts (u.map ky)).2 (ky u[0])
  have h2 : ky u[0] ∈ u.map ky := List.mem_map.2 ⟨_, List.getElem_mem h, rfl⟩
  exact List.length_pos_of_mem (h1.2 h2)
theorem specWin_l1 (l : List ByteArray) (n i : Nat) (b m : Int) (r : Int × Int × Bool) (hl : l.length ≤ 120) (hi : i + n ≤ l.length)
    (hout : Ev (fun k => if ((dlen (win l n i) : Nat) : Int) > m then spec_RichestWindow.l0 k l (n : Int) (i : Int) (dlen (win l n i) : Int) (wrap64 ((i : Int) + 1)) else spec_RichestWindow.l0 k l (n : Int) b m (wrap64 ((i : Int) + 1))) r) :
    ∀ d j (c : List ByteArray), j + d = n → upB c → c.length ≤ j → (∀ x, x ∈ c.map ky ↔ x ∈ ((win l n i).take j).map ky) →
    Ev (fun k => spec_RichestWindow.l1 k l (n : Int) b m (i : Int) c (win l n i) (n : Int) (j : Int)) r := by
  have hwl := win_length l n i hi
  intro d
  induction d with
  | zero =>
    intro j c hj hu hc hm
    have hj' : j = n := by omega
    subst hj'
    refine Ev.succ ?_
    have hd : c.length = dlen (win l j i) := by
      refine up_dlen c _ hu fun x => ?_
      rw [hm, List.take_of_length_le (by omega)]
    simp only [spec_RichestWindow.l1, Int.lt_irrefl, if_false, hd]
    exact hout
  | succ d ih =>
    intro j c hj hu hc hm
    have hlt : j < (win l n i).length := by omega
    have hg : (win l n i).getD j ByteArray.empty = (win l n i)[j] := by rw [List.getD_eq_getElem?_getD, List.getElem?_eq_getElem hlt]; rfl
    obtain ⟨q, h1, h2, h3, h4⟩ := ctPut_ev c (win l n i)[j] (by omega) hu
    have hm2 : ∀ x, x ∈ q.map ky ↔ x ∈ ((win l n i).take (j + 1)).map ky := by
      intro x
      rw [h3, hm, List.take_succ_eq_append_getElem hlt, List.map_append, List.mem_append, List.map_cons, List.map_nil, List.mem_singleton]
    refine Ev.succ ?_
    have g1 : ((j : Int) < (n : Int)) = True := eq_true (by omega)
    have g2 : ((j : Int) < ((win l n i).length : Int)) = True := eq_true (by omega)
    simp only [spec_RichestWindow.l1, g1, g2, if_true, nat_nonneg, rdSx, hg, wrap_succ (show j < 4611686018427387904 by omega)]
    refine Ev.bind h1 ?_
    exact ih (j + 1) q (by omega) h2 (by omega) hm2
theorem specWin_l0 (l : List ByteArray) (n : Nat) (hl : l.length ≤ 120) (hn : n ≤ l.length) : ∀ d i (b m : Int), i + d = l.length - n + 1 →
    Ev (fun k => spec_RichestWindow.l0 k l (n : Int) b m (i : Int)) ((scanW l n d i b m).1, (scanW l n d i b m).2, true) := by
  intro d
  induction d with
  | zero =>
    intro i b m hi
    refine Ev.succ ?_
    have hw : wrap64 ((i : Int) + (n : Int)) = ((i + n : Nat) : Int) := by rw [wrap_id (by omega) (by omega)]; omega
    have g1 : (((i + n : Nat) : Int) ≤ (l.length : Int)) = False := eq_false (by omega)
    simp only [spec_RichestWindow.l0, hw, g1, if_false, scanW]
    exact Ev.now _
  | succ d ih =>
    intro i b m hi
    refine Ev.succ ?_
    have hw : wrap64 ((i : Int) + (n : Int)) = ((i + n : Nat) : Int) := by rw [wrap_id (by omega) (by omega)]; omega
    have g1 : (((i + n : Nat) : Int) ≤ (l.length : Int)) = True := eq_true (by omega)
    have g2 : ((i : Int) ≤ ((i + n : Nat) : Int)) = True := eq_true (by omega)
    have hwl := win_length l n i (by omega)
    have hwe : (l.take (i + n)).drop i = win l n i := rfl
    simp only [spec_RichestWindow.l0, hw, g1, g2, if_true, nat_nonneg, Int.toNat_natCast, hwe, hwl]
    have h0 := fun r hout => specWin_l1 l n i b m r hl (by omega) hout n 0 [] (by omega) List.Pairwise.nil (by simp) (by simp)
    refine h0 _ ?_
    rw [wrap_succ (show i < 4611686018427387904 by omega)]
    by_cases hgt : (dlen (win l n i) : Int) > m
    · simp only [scanW, eq_true hgt, if_true]
      exact ih (i + 1) _ _ (by omega)
    · simp only [scanW, eq_false hgt, if_false]
      exact ih (i + 1) _ _ (by omega)
theorem implWin_l0 (l : List ByteArray) (n : Nat) (hl : l.length ≤ 120) (hn : n ≤ l.length) : ∀ d i (b m : Int), i + d = l.length - n + 1 →
    Ev (fun k => impl_RichestWindow.l0 k l (n : Int) b m ((l.length - n + 1 : Nat) : Int) (i : Int)) ((scanW l n d i b m).1, (scanW l n d i b m).2, true) := by
  intro d
  induction d with
  | zero =>
    intro i b m hi
    refine Ev.succ ?_
    have g1 : ((i : Int) < ((l.length - n + 1 : Nat) : Int)) = False := eq_false (by omega)
    simp only [impl_RichestWindow.l0, g1, if_false, scanW]
    exact Ev.now _
  | succ d ih =>
    intro i b m hi
    refine Ev.succ ?_
    have hw : wrap64 ((i : Int) + (n : Int)) = ((i + n : Nat) : Int) := by rw [wrap_id (by omega) (by omega)]; omega
    have g0 : ((i : Int) < ((l.length - n + 1 : Nat) : Int)) = True := eq_true (by omega)
    have g1 : (((i + n : Nat) : Int) ≤ (l.length : Int)) = True := eq_true (by omega)
    have g2 : ((i : Int) ≤ ((i + n : Nat) : Int)) = True := eq_true (by omega)
    have hwl := win_length l n i (by omega)
    have hwe : (l.take (i + n)).drop i = win l n i := rfl
    obtain ⟨r, h1, h2⟩ := distinct_dlen (win l n i) (by omega)
    simp only [impl_RichestWindow.l0, hw, g0, g1, g2, if_true, nat_nonneg, Int.toNat_natCast, hwe, h1, Option.bind_some, h2, wrap_succ (show i < 4611686018427387904 by omega)]
    by_cases hgt : (dlen (win l n i) : Int) > m
    · simp only [scanW, eq_true hgt, if_true]
      exact ih (i + 1) _ _ (by omega)
    · simp only [scanW, eq_false hgt, if_false]
      exact ih (i + 1) _ _ (by omega)
def richR (l : List ByteArray) (a : Int) : Int × Int × Bool := if tokB l && inB a 1 120 && !decide ((l.length : Int) < a) then ((scanW l a.toNat (l.length - a.toNat + 1) 0 0 0).1, (scanW l a.toNat (l.length - a.toNat + 1) 0 0 0).2, true) else (0, 0, false)
theorem scan_first (l : List ByteArray) (n d : Nat) (h : 0 < (win l n 0).length) : scanW l n (d + 1) 0 0 (-1) = scanW l n (d + 1) 0 0 0 := by
  have := dlen_pos _ h
  simp only [scanW, eq_true (show (dlen (win l n 0) : Int) > -1 by omega), eq_true (show (dlen (win l n 0) : Int) > 0 by omega), if_true]
theorem specRich_ev (l : List ByteArray) (a : Int) (hl : l.length < 4611686018427387904) (hz : TSz l) : Ev (fun k => spec_RichestWindow.f k l a) (richR l a) := by
  unfold spec_RichestWindow.f richR
  refine Ev.bind (ctGood_ev l hl hz) ?_
  rcases Bool.eq_false_or_eq_true (tokB l) with h | h
  · simp only [h, if_true, Bool.true_and, l1In_eq, Option.bind_some]
    rcases Bool.eq_false_or_eq_true (inB a 1 120) with h2 | h2
    · simp only [h2, if_true, Bool.true_and]
      refine Ev.succ ?_
      by_cases h3 : (l.length : Int) < a
      · simp only [spec_RichestWindow.j0, h3, decide_true, Bool.not_true, if_true, Bool.false_eq_true, if_false]
        exact Ev.now _
      · simp only [spec_RichestWindow.j0, h3, decide_false, Bool.not_false, if_true, Bool.false_eq_true, if_false]
        have h4 := of_decide_eq_true h2
        obtain ⟨n, rfl⟩ : ∃ n : Nat, a = (n : Int) := ⟨a.toNat, by omega⟩
        have hw : 0 < (win l n 0).length := by rw [win_length l n 0 (by omega)]; omega
        rw [Int.toNat_natCast, ← scan_first l n _ hw]
        exact specWin_l0 l n (tokB_len h) (by omega) _ 0 _ _ (by omega)
    · simp only [h2, Bool.false_and, Bool.false_eq_true, if_false]
      refine Ev.succ ?_
      simp only [spec_RichestWindow.j0, if_true]
      exact Ev.now _
  · simp only [h, Bool.false_and, Bool.false_eq_true, if_false]
    refine Ev.succ ?_
    simp only [spec_RichestWindow.j0, if_true]
    exact Ev.now _
theorem implRich_ev (l : List ByteArray) (a : Int) (hl : l.length < 4611686018427387904) (hz : TSz l) : Ev (fun k => impl_RichestWindow.f k l a) (richR l a) := by
  unfold impl_RichestWindow.f richR
  refine Ev.bind (areTokens_ev l hz) ?_
  rcases Bool.eq_false_or_eq_true (tokB l) with h | h
  · simp only [h, if_true, Bool.true_and, within_eq, Option.bind_some]
    rcases Bool.eq_false_or_eq_true (inB a 1 120) with h2 | h2
    · simp only [h2, if_true, Bool.true_and]
      refine Ev.succ ?_
      by_cases h3 : (l.length : Int) < a
      · simp only [impl_RichestWindow.j0, h3, decide_true, Bool.not_true, if_true, Bool.false_eq_true, if_false]
        exact Ev.now _
      · simp only [impl_RichestWindow.j0, h3, decide_false, Bool.not_false, if_true, Bool.false_eq_true, if_false]
        have h4 := of_decide_eq_true h2
        obtain ⟨n, rfl⟩ : ∃ n : Nat, a = (n : Int) := ⟨a.toNat, by omega⟩
        have hw : wrap64 (wrap64 ((l.length : Int) - (n : Int)) + 1) = ((l.length - n + 1 : Nat) : Int) := by rw [wrap_id (x := (l.length : Int) - (n : Int)) (by omega) (by omega), wrap_id (by omega) (by omega)]; omega
        rw [hw, Int.toNat_natCast]
        exact implWin_l0 l n (tokB_len h) (by omega) _ 0 _ _ (by omega)
    · simp only [h2, Bool.false_and, Bool.false_eq_true, if_false]
      refine Ev.succ ?_
      simp only [impl_RichestWindow.j0, if_true]
      exact Ev.now _
  · simp only [h, Bool.false_and, Bool.false_eq_true, if_false]
    refine Ev.succ ?_
    simp only [impl_RichestWindow.j0, if_true]
    exact Ev.now _

theorem FnExactRichestWindow : laws_FnExactRichestWindow.Pure := by
  intro l a h hz _
  obtain ⟨r, hb, hr⟩ := szStringS_ev l h hz
  refine Ev.rounds ?_
  unfold laws_FnExactRichestWindow.f
  refine Ev.bind hr ?_
  by_cases h0 : r < 0
  · simp only [eq_true h0, if_true]
    exact Ev.now _
  simp only [eq_false h0, if_false]
  have hb' := hb (by omega)
  refine Ev.bind (toStringS_ev l h) ?_
  refine Ev.bind (specRich_ev l a (by omega) hz) ?_
  refine Ev.bind (toStringS_ev l h) ?_
  refine Ev.bind (implRich_ev l a (by omega) hz) ?_
  simp only [bne_self_eq_false, if_true]
  refine Ev.succ ?_
  simp only [laws_FnExactRichestWindow.j0, Bool.false_eq_true, if_false]
  refine Ev.bind (toStringS_ev l h) ?_
  refine Ev.bind (eqStringS_ev _ (by omega)) ?_
  simp only [if_true]
  exact Ev.now _
end Go.Proofs.Ytfndkjklphajmaa.Pure
