/- For all texts and a gloss, the program's CountOf returns what the reference's CountOf returns, and leaves the list alone. No condition. -/
import Derived.Test.YtfndkjklphajmaaQImplAreTokens
import Derived.Test.YtfndkjklphajmaaQImplCountOf
import Derived.Test.YtfndkjklphajmaaQImplHasOnly
import Derived.Test.YtfndkjklphajmaaQImplIsGloss
import Derived.Test.YtfndkjklphajmaaQImplIsWordOf
import Derived.Test.YtfndkjklphajmaaQImplPlacesOf
import Derived.Test.YtfndkjklphajmaaQImplWithin
import Derived.Test.YtfndkjklphajmaaQLawsEqStringS
import Derived.Test.YtfndkjklphajmaaQLawsFnExactCountOf
import Derived.Test.YtfndkjklphajmaaQLawsSzStringS
import Derived.Test.YtfndkjklphajmaaQLawsToStringS
import Derived.Test.YtfndkjklphajmaaQSpecCountOf
import Derived.Test.YtfndkjklphajmaaQSpecCtAsked
import Derived.Test.YtfndkjklphajmaaQSpecCtCount
import Derived.Test.YtfndkjklphajmaaQSpecCtGood
import Derived.Test.YtfndkjklphajmaaQSpecEnGloss
import Derived.Test.YtfndkjklphajmaaQSpecL1In
import Derived.Test.YtfndkjklphajmaaQStringsIndexByte
import Derived.Test.YtfndkjklphajmaaQ0
import Derived.Test.YtfndkjklphajmaaWWords
import Derived.Lib.Bytealg
set_option linter.unusedVariables false
set_option linter.unusedSimpArgs false
namespace Go.Proofs.Ytfndkjklphajmaa.Pure
open Go.RowKit Go.Proofs.Ytfndkjklphajmaa.Q Go.Proofs.YtfndkjklphajmaaW.PrintLast Go.Proofs.YtfndkjklphajmaaW.PrintWords
theorem Ev.succ {α : Type} {g : Nat → Option α} {r : α} (h : Ev (fun k => g (k + 1)) r) : Ev g r := Ev.step (fun _ => rfl) h
theorem Ev.k {α : Type} {g : Nat → Option α} {o : Option α} {r : α} (hg : ∀ k, g k = o) (h : o = some r) : Ev g r := ⟨0, fun k _ => (hg k).trans h⟩
theorem Ev.eq {α : Type} {g : Nat → Option α} {r r' : α} (h : Ev g r) (e : r = r') : Ev g r' := e ▸ h
/-- From round i up to round n. -/
theorem Ev.upto {β : Type} {L : Nat → Nat → Option β} {r : β} {n : Nat} (hend : Ev (fun k => L k n) r)
    (hstep : ∀ j, j < n → Ev (fun k => L k (j + 1)) r → Ev (fun k => L k j) r) : ∀ i, i ≤ n → Ev (fun k => L k i) r := by
  intro i hi
  obtain ⟨d, hd⟩ : ∃ d, n = i + d := ⟨n - i, by omega⟩
  induction d generalizing i with
  | zero => simp at hd; subst hd; exact hend
  | succ d ih => exact hstep i (by omega) (ih (i + 1) (by omega) (by omega))
/-- A loop that ends early where P fails. -/
theorem Ev.all {β : Type} {L : Nat → Nat → Option β} {P : Nat → Bool} {n : Nat} {a b : β} (hend : Ev (fun k => L k n) a)
    (hyes : ∀ j r, j < n → P j = true → Ev (fun k => L k (j + 1)) r → Ev (fun k => L k j) r) (hno : ∀ j, j < n → P j = false → Ev (fun k => L k j) b) :
    ∀ i, i ≤ n → Ev (fun k => L k i) (if (List.range' i (n - i)).all P then a else b) := by
  intro i hi
  obtain ⟨d, hd⟩ : ∃ d, n = i + d := ⟨n - i, by omega⟩
  induction d generalizing i with
  | zero => simp at hd; subst hd; simpa using hend
  | succ d ih =>
    have h1 : n - i = (n - (i + 1)) + 1 := by omega
    rw [h1, List.range'_succ]
    simp only [List.all_cons]
    rcases Bool.eq_false_or_eq_true (P i) with hP | hP
    · simp only [hP, Bool.true_and]
      exact hyes i _ (by omega) hP (ih (i + 1) (by omega) (by omega))
    · simpa [hP] using hno i (by omega) hP
theorem Ev.all0 {β : Type} {L : Nat → Nat → Option β} {P : Nat → Bool} {n : Nat} {a b : β} (hend : Ev (fun k => L k n) a)
    (hyes : ∀ j r, j < n → P j = true → Ev (fun k => L k (j + 1)) r → Ev (fun k => L k j) r) (hno : ∀ j, j < n → P j = false → Ev (fun k => L k j) b) :
    Ev (fun k => L k 0) (if (List.range n).all P then a else b) := by
  have := Ev.all hend hyes hno 0 (Nat.zero_le _)
  rwa [Nat.sub_zero, ← List.range_eq_range'] at this

theorem wrap_id {x : Int} (h0 : -9223372036854775808 ≤ x) (h1 : x ≤ 9223372036854775807) : wrap64 x = x := by
  unfold wrap64
  omega
theorem wrap_succ {n : Nat} (h : n < 4611686018427387904) : wrap64 ((n : Int) + 1) = ((n + 1 : Nat) : Int) := by
  rw [wrap_id (by omega) (by omega)]
  omega
theorem nat_nonneg (n : Nat) : (0 ≤ (n : Int)) = True := eq_true (Int.natCast_nonneg n)
/-- A copy, element by element, into a row that was made. -/
theorem Ev.copy {α β : Type} (f : α → β) (l : List α) (za : α) (zb : β) (L : Nat → List β → Int → Option (List β))
    (hstep : ∀ (j : Nat) (s r : List β), j < l.length → s.length = l.length → Ev (fun k => L k (s.set j (f (l.getD j za))) ((j + 1 : Nat) : Int)) r → Ev (fun k => L k s (j : Int)) r)
    (hend : ∀ s : List β, s.length = l.length → Ev (fun k => L k s (l.length : Int)) s) : Ev (fun k => L k (List.replicate l.length zb) 0) (l.map f) := by
  have key := Ev.upto (L := fun k j => L k ((l.map f).take j ++ List.replicate (l.length - j) zb) (j : Int)) (r := l.map f) (n := l.length)
    (by
      have h := hend ((l.map f).take l.length ++ List.replicate (l.length - l.length) zb) (by simp)
      refine Ev.eq h ?_
      rw [Nat.sub_self, List.replicate_zero, List.append_nil, List.take_of_length_le (by simp)])
    (by
      intro j hj h
      have hlen : ((l.map f).take j ++ List.replicate (l.length - j) zb).length = l.length := by simp; omega
      refine hstep j _ _ hj hlen ?_
      have e : ((l.map f).take j ++ List.replicate (l.length - j) zb).set j (f (l.getD j za)) = (l.map f).take (j + 1) ++ List.replicate (l.length - (j + 1)) zb := by
        have e1 : l.length - j = (l.length - (j + 1)) + 1 := by omega
        rw [e1, List.replicate_succ, List.set_append_right _ _ (by simp; omega)]
        have e2 : j - ((l.map f).take j).length = 0 := by simp; omega
        rw [e2, List.set_cons_zero, List.take_succ_eq_append_getElem (by simpa using hj)]
        simp [List.getD_eq_getElem?_getD, List.getElem?_eq_getElem hj]
      rw [e]
      exact h)
    0 (Nat.zero_le _)
  simpa using key
/-- What is left of a size, or that it was passed. -/
theorem Ev.sz {L : Nat → Nat → Int → Option Int} {n : Nat}
    (hstep : ∀ (j : Nat) (a : Int), j < n → 0 ≤ a → a ≤ 1048576 → (∃ a', 0 ≤ a' ∧ a' ≤ a ∧ ∀ r, Ev (fun k => L k (j + 1) a') r → Ev (fun k => L k j a) r) ∨ Ev (fun k => L k j a) (-1))
    (hend : ∀ a : Int, 0 ≤ a → a ≤ 1048576 → Ev (fun k => L k n a) a) :
    ∀ (j : Nat), j ≤ n → ∀ a : Int, 0 ≤ a → a ≤ 1048576 → ∃ r, r ≤ a ∧ Ev (fun k => L k j a) r := by
  intro j hj
  obtain ⟨d, hd⟩ : ∃ d, n = j + d := ⟨n - j, by omega⟩
  induction d generalizing j with
  | zero => simp at hd; subst hd; exact fun a h0 h1 => ⟨a, Int.le_refl _, hend a h0 h1⟩
  | succ d ih =>
    intro a h0 h1
    rcases hstep j a (by omega) h0 h1 with ⟨a', h2, h3, h4⟩ | h5
    · obtain ⟨r, h6, h7⟩ := ih (j + 1) (by omega) (by omega) a' h2 (by omega)
      exact ⟨r, by omega, h4 r h7⟩
    · exact ⟨-1, by omega, h5⟩
def inB (a b c : Int) : Bool := decide (b ≤ a ∧ a ≤ c)
theorem l1In_eq (a b c : Int) : spec_l1In.f a b c = some (inB a b c) := by
  unfold spec_l1In.f inB
  split <;> simp <;> omega
theorem within_eq (a b c : Int) : impl_within.f a b c = some (inB a b c) := by
  unfold impl_within.f inB
  split <;> simp <;> omega
def capAt (s : ByteArray) (j : Nat) : Bool := decide (65 ≤ bt s j ∧ bt s j ≤ 90)
def glossB (s : ByteArray) : Bool := inB s.size 1 8 && (List.range s.size).all (capAt s)
def caps : ByteArray := ⟨#[65, 66, 67, 68, 69, 70, 71, 72, 73, 74, 75, 76, 77, 78, 79, 80, 81, 82, 83, 84, 85, 86, 87, 88, 89, 90]⟩
theorem caps_all : ((List.range 256).all fun n => decide (Lib.indexByte caps.data.toList n.toUInt8 < 0) == !(decide (65 ≤ n ∧ n ≤ 90))) = true := by decide +kernel
theorem caps_index (b : Int) (h0 : 0 ≤ b) (h1 : b ≤ 255) : (Lib.indexByte caps.data.toList b.toNat.toUInt8 < 0) ↔ ¬ (65 ≤ b ∧ b ≤ 90) := by
  have h := List.all_eq_true.1 caps_all b.toNat (List.mem_range.2 (by omega))
  simp only [beq_iff_eq] at h
  by_cases hc : 65 ≤ b ∧ b ≤ 90
  · have h2 : decide (65 ≤ b.toNat ∧ b.toNat ≤ 90) = true := decide_eq_true (by omega)
    rw [h2] at h
    exact ⟨fun h3 => absurd h3 (of_decide_eq_false h), fun h3 => absurd hc h3⟩
  · have h2 : decide (65 ≤ b.toNat ∧ b.toNat ≤ 90) = false := decide_eq_false (by omega)
    rw [h2] at h
    exact ⟨fun _ => hc, fun _ => of_decide_eq_true h⟩
theorem hasOnly_ev (s : ByteArray) (hs : s.size < 4611686018427387904) : Ev (fun k => impl_hasOnly.f k s caps) ((List.range s.size).all (capAt s)) := by
  unfold impl_hasOnly.f
  refine Ev.eq (Ev.all0 (L := fun k j => impl_hasOnly.l0 k s caps (s.size : Int) (j : Int)) (P := capAt s) (n := s.size) (a := true) (b := false) ?_ ?_ ?_) (by split <;> simp_all)
  · refine Ev.succ ?_
    simp only [impl_hasOnly.l0, Int.lt_irrefl, if_false]
    exact Ev.now _
  · intro j r hj hP h
    refine Ev.succ ?_
    have h1 : ((j : Int) < (s.size : Int)) = True := eq_true (by omega)
    have hb := bt_range s (j : Int)
    have h2 : (Lib.indexByte caps.data.toList (bt s (j : Int)).toNat.toUInt8 < 0) = False := eq_false (fun hc => (caps_index _ hb.1 hb.2).1 hc (of_decide_eq_true hP))
    simp only [impl_hasOnly.l0, strings_IndexByte.f, Option.bind_some, h1, if_true, nat_nonneg, h2, if_false, wrap_succ (show j < 4611686018427387904 by omega)]
    exact h
  · intro j hj hP
    refine Ev.succ ?_
    have h1 : ((j : Int) < (s.size : Int)) = True := eq_true (by omega)
    have hb := bt_range s (j : Int)
    have h2 : (Lib.indexByte caps.data.toList (bt s (j : Int)).toNat.toUInt8 < 0) = True := eq_true ((caps_index _ hb.1 hb.2).2 (of_decide_eq_false hP))
    simp only [impl_hasOnly.l0, strings_IndexByte.f, Option.bind_some, h1, if_true, nat_nonneg, h2]
    exact Ev.now _
theorem isGloss_ev (s : ByteArray) (hs : s.size < 4611686018427387904) : Ev (fun k => impl_IsGloss.f k s) (glossB s) := by
  unfold impl_IsGloss.f impl_isWordOf.f glossB
  refine Ev.bind (a := inB s.size 1 8 && (List.range s.size).all (capAt s)) ?_ (Ev.now _)
  simp only [within_eq, Option.bind_some]
  rcases Bool.eq_false_or_eq_true (inB s.size 1 8) with h | h
  · simp only [h, if_true, Bool.true_and]
    exact Ev.bind (hasOnly_ev s hs) (Ev.now _)
  · simp only [h]
    exact Ev.now _
theorem enGloss_ev (s : ByteArray) (hs : s.size < 4611686018427387904) : Ev (fun k => spec_enGloss.f k s) (glossB s) := by
  unfold spec_enGloss.f
  refine Ev.eq (Ev.all0 (L := fun k j => spec_enGloss.l0 k s (j : Int)) (P := capAt s) (n := s.size) (a := inB s.size 1 8) (b := false) ?_ ?_ ?_) (by unfold glossB; split <;> simp_all)
  · refine Ev.succ ?_
    simp only [spec_enGloss.l0, Int.lt_irrefl, if_false, l1In_eq, Option.bind_some]
    exact Ev.now _
  · intro j r hj hP h
    refine Ev.succ ?_
    have h1 : ((j : Int) < (s.size : Int)) = True := eq_true (by omega)
    have hP' := of_decide_eq_true hP
    simp only [spec_enGloss.l0, h1, if_true, nat_nonneg, show (bt s (j : Int) < 65) = False from eq_false (by omega), show (bt s (j : Int) > 90) = False from eq_false (by omega), if_false, wrap_succ (show j < 4611686018427387904 by omega)]
    exact h
  · intro j hj hP
    refine Ev.succ ?_
    have h1 : ((j : Int) < (s.size : Int)) = True := eq_true (by omega)
    have hP' := of_decide_eq_false hP
    simp only [spec_enGloss.l0, h1, if_true, nat_nonneg]
    by_cases h2 : bt s (j : Int) < 65
    · simp only [eq_true h2, if_true]
      exact Ev.now _
    · simp only [eq_false h2, if_false, show (bt s (j : Int) > 90) = True from eq_true (by omega), if_true]
      exact Ev.now _
theorem rdSx (l : List ByteArray) (j : Nat) : rdOf ByteArray.empty l (j : Int) = l.getD j ByteArray.empty := by simp [rdOf]
theorem toStringS_ev (l : List ByteArray) (hl : l.length * 16 ≤ 140737488351232) : Ev (fun k => laws_toStringS.f k l) l := by
  unfold laws_toStringS.f
  simp only [nat_nonneg, if_true, Int.toNat_natCast, show (l.length ≤ 17592186044416) = True from eq_true (by omega)]
  have key := Ev.copy (fun x : ByteArray => x) l ByteArray.empty (⟨#[]⟩ : ByteArray) (fun k s j => laws_toStringS.l0 k l s j)
    (by
      intro j s r hj hs h
      refine Ev.succ ?_
      have h1 : ((j : Int) < (l.length : Int)) = True := eq_true (by omega)
      simp only [laws_toStringS.l0, h1, if_true, nat_nonneg, hs, Int.toNat_natCast, wrap_succ (show j < 4611686018427387904 by omega), rdSx]
      exact h)
    (by
      intro s hs
      refine Ev.succ ?_
      simp only [laws_toStringS.l0, Int.lt_irrefl, if_false]
      exact Ev.now _)
  simpa using key
theorem szStringS_ev (l : List ByteArray) (hl : l.length * 16 ≤ 140737488351232) (hz : ∀ y, y ∈ l → y.size ≤ 140737488351232) : ∃ r, (0 ≤ r → l.length ≤ 1048576) ∧ Ev (fun k => laws_szStringS.f k l 1048576) r := by
  unfold laws_szStringS.f
  rw [wrap_id (x := 1048576 - (l.length : Int)) (by omega) (by omega)]
  by_cases h0 : (1048576 : Int) - l.length < 0
  · refine ⟨-1, fun h => absurd h (by decide), ?_⟩
    simp only [eq_true h0, if_true]
    exact Ev.now _
  · obtain ⟨r, _, hr⟩ := Ev.sz (L := fun k j a => laws_szStringS.l0 k l a (j : Int)) (n := l.length)
      (by
        intro j a hj ha0 ha1
        have h1 : ((j : Int) < (l.length : Int)) = True := eq_true (by omega)
        have hs := hz (l.getD j ByteArray.empty) (by rw [List.getD_eq_getElem?_getD, List.getElem?_eq_getElem hj]; exact List.getElem_mem hj)
        by_cases hc : a - ((l.getD j ByteArray.empty).size : Int) < 0
        · refine .inr (Ev.succ ?_)
          simp only [laws_szStringS.l0, h1, if_true, nat_nonneg, rdSx, wrap_id (x := a - ((l.getD j ByteArray.empty).size : Int)) (by omega) (by omega), eq_true hc]
          exact Ev.now _
        · refine .inl ⟨a - ((l.getD j ByteArray.empty).size : Int), by omega, by omega, fun r h => Ev.succ ?_⟩
          simp only [laws_szStringS.l0, h1, if_true, nat_nonneg, rdSx, wrap_id (x := a - ((l.getD j ByteArray.empty).size : Int)) (by omega) (by omega), eq_false hc, if_false, wrap_succ (show j < 4611686018427387904 by omega)]
          exact h)
      (by
        intro a _ _
        refine Ev.succ ?_
        simp only [laws_szStringS.l0, Int.lt_irrefl, if_false]
        exact Ev.now _)
      0 (Nat.zero_le _) (1048576 - (l.length : Int)) (by omega) (by omega)
    refine ⟨r, fun _ => by omega, ?_⟩
    simp only [eq_false h0, if_false]
    exact hr
def tokB (l : List ByteArray) : Bool := decide (l.length ≤ 120) && l.all glossB
/-- Every text is short enough. -/
def TSz (l : List ByteArray) : Prop := ∀ y, y ∈ l → y.size ≤ 140737488351232
theorem tokAll_ev : ∀ l : List ByteArray, TSz l → Ev (fun k => impl_areTokens.all k l) (l.all glossB)
  | [], _ => Ev.now _
  | s :: l, hz => by
    unfold impl_areTokens.all
    have hs := hz s (List.mem_cons_self ..)
    refine Ev.bind (isGloss_ev s (by omega)) ?_
    refine Ev.bind (tokAll_ev l (fun y hy => hz y (List.mem_cons_of_mem _ hy))) ?_
    rw [List.all_cons]
    exact Ev.now _
theorem areTokens_ev (l : List ByteArray) (hz : TSz l) : Ev (fun k => impl_areTokens.f k l) (tokB l) := by
  unfold impl_areTokens.f tokB
  by_cases h : l.length ≤ 120
  · have h1 : ((l.length : Int) ≤ 120) = True := eq_true (by omega)
    simp only [h1, if_true, h, decide_true, Bool.true_and]
    exact tokAll_ev l hz
  · have h1 : ((l.length : Int) ≤ 120) = False := eq_false (by omega)
    simp only [h1, if_false, h, decide_false, Bool.false_and]
    exact Ev.now _
theorem all_range (l : List ByteArray) (p : ByteArray → Bool) : ((List.range l.length).all fun i => p (l.getD i ByteArray.empty)) = l.all p := by
  rw [Bool.eq_iff_iff, List.all_eq_true, List.all_eq_true]
  constructor
  · intro h x hx
    obtain ⟨i, hi, rfl⟩ := List.getElem_of_mem hx
    have := h i (List.mem_range.2 hi)
    simpa [List.getD_eq_getElem?_getD, List.getElem?_eq_getElem hi] using this
  · intro h i hi
    have hi' := List.mem_range.1 hi
    have := h l[i] (List.getElem_mem hi')
    simpa [List.getD_eq_getElem?_getD, List.getElem?_eq_getElem hi'] using this
theorem ctGood_ev (l : List ByteArray) (hl : l.length < 4611686018427387904) (hz : TSz l) : Ev (fun k => spec_ctGood.f k l) (tokB l) := by
  unfold spec_ctGood.f
  have hg : ∀ j, j < l.length → (l.getD j ByteArray.empty).size < 4611686018427387904 := by
    intro j hj
    have := hz (l.getD j ByteArray.empty) (by rw [List.getD_eq_getElem?_getD, List.getElem?_eq_getElem hj]; exact List.getElem_mem hj)
    omega
  have key := Ev.all0 (L := fun k j => spec_ctGood.l0 k l l (l.length : Int) (j : Int)) (P := fun i => glossB (l.getD i ByteArray.empty)) (n := l.length) (a := decide (l.length ≤ 120)) (b := false)
    (by
      refine Ev.succ ?_
      simp only [spec_ctGood.l0, Int.lt_irrefl, if_false]
      refine Ev.eq (Ev.now _) ?_
      rw [decide_eq_decide]
      omega)
    (by
      intro j r hj hP h
      refine Ev.succ ?_
      have h1 : ((j : Int) < (l.length : Int)) = True := eq_true (by omega)
      simp only [spec_ctGood.l0, h1, if_true, nat_nonneg, rdSx, wrap_succ (show j < 4611686018427387904 by omega)]
      refine Ev.bind (enGloss_ev _ (hg j hj)) ?_
      simp only [hP, if_true]
      exact h)
    (by
      intro j hj hP
      refine Ev.succ ?_
      have h1 : ((j : Int) < (l.length : Int)) = True := eq_true (by omega)
      simp only [spec_ctGood.l0, h1, if_true, nat_nonneg, rdSx]
      refine Ev.bind (enGloss_ev _ (hg j hj)) ?_
      simp only [hP]
      exact Ev.now _)
  refine Ev.eq key ?_
  rw [all_range]
  unfold tokB
  cases l.all glossB <;> simp
theorem ctAsked_ev (l : List ByteArray) (g : ByteArray) (hl : l.length < 4611686018427387904) (hz : TSz l) (hg : g.size < 4611686018427387904) : Ev (fun k => spec_ctAsked.f k l g) (tokB l && glossB g) := by
  unfold spec_ctAsked.f
  refine Ev.bind (ctGood_ev l hl hz) ?_
  rcases Bool.eq_false_or_eq_true (tokB l) with h | h
  · simp only [h, if_true, Bool.true_and]
    exact Ev.bind (enGloss_ev g hg) (Ev.now _)
  · simp only [h]
    exact Ev.now _
def hit (g s : ByteArray) : Bool := decide (s.toList = g.toList)
/-- The places of g, from j on, of d tokens. -/
def plcs (l : List ByteArray) (g : ByteArray) (d j : Nat) (c : List Int) : List Int := impl_placesOf.at (hit g) l d j c
theorem placesOf_eq (l : List ByteArray) (g : ByteArray) (hl : l.length < 17592186044416) : impl_placesOf.f l g = some (plcs l g l.length 0 []) := by
  unfold impl_placesOf.f
  rw [if_pos hl]
  rfl
theorem plcs_succ (l : List ByteArray) (g : ByteArray) (d j : Nat) (c : List Int) : plcs l g (d + 1) j c = plcs l g d (j + 1) (if hit g (l.getD j ByteArray.empty) then c ++ [(j : Int)] else c) := rfl
theorem eqStringS_ev (l : List ByteArray) (hl : l.length < 4611686018427387904) : Ev (fun k => laws_eqStringS.f k l l) true := by
  unfold laws_eqStringS.f
  simp only [if_true]
  exact Ev.upto (L := fun k j => laws_eqStringS.l0 k l l (j : Int)) (r := true) (n := l.length)
    (by
      refine Ev.succ ?_
      simp only [laws_eqStringS.l0, Int.lt_irrefl, if_false]
      exact Ev.now _)
    (by
      intro j hj h
      refine Ev.succ ?_
      have h1 : ((j : Int) < (l.length : Int)) = True := eq_true (by omega)
      simp only [laws_eqStringS.l0, h1, if_true, nat_nonneg, wrap_succ (show j < 4611686018427387904 by omega)]
      exact h)
    0 (Nat.zero_le _)
end Go.Proofs.Ytfndkjklphajmaa.Pure
namespace Go.Proofs.Ytfndkjklphajmaa.Pure
open Go.RowKit Go.Proofs.Ytfndkjklphajmaa.Q Go.Proofs.YtfndkjklphajmaaW.PrintWords Go.Proofs.YtfndkjklphajmaaW.PrintLast

theorem ctCount_l0 (l : List ByteArray) (g : ByteArray) (hl : l.length < 4611686018427387904) : ∀ d j (c : List Int), j + d = l.length → c.length ≤ j → Ev (fun k => spec_ctCount.l0 k g (c.length : Int) l (l.length : Int) (j : Int)) ((plcs l g d j c).length : Int) := by
  intro d
  induction d with
  | zero =>
    intro j c hj _
    refine Ev.succ ?_
    have h1 : ((j : Int) < (l.length : Int)) = False := eq_false (by omega)
    simp only [spec_ctCount.l0, h1, if_false]
    exact Ev.now _
  | succ d ih =>
    intro j c hj hc
    refine Ev.succ ?_
    have h1 : ((j : Int) < (l.length : Int)) = True := eq_true (by omega)
    simp only [spec_ctCount.l0, h1, if_true, nat_nonneg, rdSx, wrap_succ (show j < 4611686018427387904 by omega), wrap_succ (show c.length < 4611686018427387904 by omega)]
    rw [plcs_succ]
    by_cases h : (l.getD j ByteArray.empty).toList = g.toList
    · have hh : hit g (l.getD j ByteArray.empty) = true := decide_eq_true h
      rw [if_pos hh]
      simp only [eq_true h, if_true]
      have := ih (j + 1) (c ++ [(j : Int)]) (by omega) (by simp; omega)
      rw [List.length_append, List.length_singleton] at this
      exact this
    · have hh : hit g (l.getD j ByteArray.empty) = false := decide_eq_false h
      rw [if_neg (by rw [hh]; decide)]
      simp only [eq_false h, if_false]
      exact ih (j + 1) c (by omega) (by omega)
theorem ctCount_ev (l : List ByteArray) (g : ByteArray) (hl : l.length < 4611686018427387904) : Ev (fun k => spec_ctCount.f k l g) ((plcs l g l.length 0 []).length : Int) := by
  unfold spec_ctCount.f
  exact ctCount_l0 l g hl l.length 0 [] (by omega) (by simp)
def countR (l : List ByteArray) (g : ByteArray) : Int × Bool := if tokB l && glossB g then (((plcs l g l.length 0 []).length : Int), true) else (0, false)
theorem specCountOf_ev (l : List ByteArray) (g : ByteArray) (hl : l.length < 4611686018427387904) (hz : TSz l) (hg : g.size < 4611686018427387904) : Ev (fun k => spec_CountOf.f k l g) (countR l g) := by
  unfold spec_CountOf.f countR
  refine Ev.bind (ctAsked_ev l g hl hz hg) ?_
  rcases Bool.eq_false_or_eq_true (tokB l && glossB g) with h | h
  · simp only [h, if_true]
    exact Ev.bind (ctCount_ev l g hl) (Ev.now _)
  · simp only [h]
    exact Ev.now _
theorem implCountOf_ev (l : List ByteArray) (g : ByteArray) (hl : l.length < 17592186044416) (hz : TSz l) (hg : g.size < 4611686018427387904) : Ev (fun k => impl_CountOf.f k l g) (countR l g) := by
  unfold impl_CountOf.f countR
  refine Ev.bind (areTokens_ev l hz) ?_
  rcases Bool.eq_false_or_eq_true (tokB l) with h | h
  · simp only [h, if_true, Bool.true_and]
    refine Ev.bind (isGloss_ev g hg) ?_
    rcases Bool.eq_false_or_eq_true (glossB g) with h2 | h2
    · simp only [h2, if_true, placesOf_eq l g hl, Option.bind_some]
      exact Ev.now _
    · simp only [h2]
      exact Ev.now _
  · simp only [h]
    exact Ev.now _

theorem FnExactCountOf : laws_FnExactCountOf.Pure := by
  intro l g h hz hg
  obtain ⟨r, _, hr⟩ := szStringS_ev l h hz
  refine Ev.rounds ?_
  unfold laws_FnExactCountOf.f
  by_cases hb : (g.size : Int) > 1048576
  · simp only [eq_true hb, if_true]
    exact Ev.now _
  simp only [eq_false hb, if_false]
  refine Ev.bind hr ?_
  by_cases h0 : r < 0
  · simp only [eq_true h0, if_true]
    exact Ev.now _
  simp only [eq_false h0, if_false]
  refine Ev.bind (toStringS_ev l h) ?_
  refine Ev.bind (specCountOf_ev l g (by omega) hz (by omega)) ?_
  refine Ev.bind (toStringS_ev l h) ?_
  refine Ev.bind (implCountOf_ev l g (by omega) hz (by omega)) ?_
  simp only [bne_self_eq_false, if_true]
  refine Ev.succ ?_
  simp only [laws_FnExactCountOf.j0]
  refine Ev.bind (toStringS_ev l h) ?_
  refine Ev.bind (eqStringS_ev _ (by omega)) ?_
  exact Ev.now _
end Go.Proofs.Ytfndkjklphajmaa.Pure
