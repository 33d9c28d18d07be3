/- For every list of texts, the program's MostPair returns what the reference's MostPair returns, and leaves the list alone. No condition. -/
import Derived.Test.YtidlgfgadiknfaaQBLawsEqStringS
import Derived.Test.YtidlgfgadiknfaaQBLawsSzStringS
import Derived.Test.YtidlgfgadiknfaaQImplAreTokens
import Derived.Test.YtidlgfgadiknfaaQImplMostPair
import Derived.Test.YtidlgfgadiknfaaQLawsFnExactMostPair
import Derived.Test.YtidlgfgadiknfaaQ0
import Derived.Test.YtidlgfgadiknfaaGBst
import Derived.Test.YtidlgfgadiknfaaWWords
import Derived.Lib.Bytealg
set_option linter.unusedVariables false
set_option linter.unusedSimpArgs false
namespace Go.Proofs.Ytidlgfgadiknfaa.Pure
open Go.RowKit Go.Proofs.Ytidlgfgadiknfaa.Q Go.Proofs.YtidlgfgadiknfaaW.PrintLast Go.Proofs.YtidlgfgadiknfaaW.PrintWords
theorem Ev.succ {α : Type} {g : Nat → Option α} {r : α} (h : Ev (fun k => g (k + 1)) r) : Ev g r := Ev.step (fun _ => rfl) h
theorem Ev.k {α : Type} {g : Nat → Option α} {o : Option α} {r : α} (hg : ∀ k, g k = o) (h : o = some r) : Ev g r := ⟨0, fun k _ => (hg k).trans h⟩
theorem Ev.eq {α : Type} {g : Nat → Option α} {r r' : α} (h : Ev g r) (e : r = r') : Ev g r' := e ▸ h
/-- From round i up to round n. -/
theorem Ev.upto {β : Type} {L : Nat → Nat → Option β} {r : β} {n : Nat} (hend : Ev (fun k => L k n) r)
    (hstep : ∀ j, j < n → Ev (fun k => L k (j + 1)) r → Ev (fun k => L k j) r) : ∀ i, i ≤ n → Ev (fun k => L k i) r := by
  intro i hi
  obtain ⟨d, hd⟩ : ∃ d, n = i + d := ⟨n - i, by omega⟩
  induction d generalizing i with
  | zero => simp at hd; subst hd; exact hend
  | succ d ih => exact hstep i (by omega) (ih (i + 1) (by omega) (by omega))
/-- A loop that ends early where P fails. -/
theorem Ev.all {β : Type} {L : Nat → Nat → Option β} {P : Nat → Bool} {n : Nat} {a b : β} (hend : Ev (fun k => L k n) a)
    (hyes : ∀ j r, j < n → P j = true → Ev (fun k => L k (j + 1)) r → Ev (fun k => L k j) r) (hno : ∀ j, j < n → P j = false → Ev (fun k => L k j) b) :
    ∀ i, i ≤ n → Ev (fun k => L k i) (if (List.range' i (n - i)).all P then a else b) := by
  intro i hi
  obtain ⟨d, hd⟩ : ∃ d, n = i + d := ⟨n - i, by omega⟩
  induction d generalizing i with
  | zero => simp at hd; subst hd; simpa using hend
  | succ d ih =>
    have h1 : n - i = (n - (i + 1)) + 1 := by omega
    rw [h1, List.range'_succ]
    simp only [List.all_cons]
    rcases Bool.eq_false_or_eq_true (P i) with hP | hP
    · simp only [hP, Bool.true_and]
      exact hyes i _ (by omega) hP (ih (i + 1) (by omega) (by omega))
    · simpa [hP] using hno i (by omega) hP
theorem Ev.all0 {β : Type} {L : Nat → Nat → Option β} {P : Nat → Bool} {n : Nat} {a b : β} (hend : Ev (fun k => L k n) a)
    (hyes : ∀ j r, j < n → P j = true → Ev (fun k => L k (j + 1)) r → Ev (fun k => L k j) r) (hno : ∀ j, j < n → P j = false → Ev (fun k => L k j) b) :
    Ev (fun k => L k 0) (if (List.range n).all P then a else b) := by
  have := Ev.all hend hyes hno 0 (Nat.zero_le _)
  rwa [Nat.sub_zero, ← List.range_eq_range'] at this

theorem wrap_id {x : Int} (h0 : -9223372036854775808 ≤ x) (h1 : x ≤ 9223372036854775807) : wrap64 x = x := by
  unfold wrap64
  omega
theorem wrap_succ {n : Nat} (h : n < 4611686018427387904) : wrap64 ((n : Int) + 1) = ((n + 1 : Nat) : Int) := by
  rw [wrap_id (by omega) (by omega)]
  omega
theorem wrap_pred {n : Nat} (h0 : 0 < n) (h : n < 4611686018427387904) : wrap64 ((n : Int) - 1) = ((n - 1 : Nat) : Int) := by
  rw [wrap_id (by omega) (by omega)]
  omega
theorem nat_nonneg (n : Nat) : (0 ≤ (n : Int)) = True := eq_true (Int.natCast_nonneg n)
/-- A copy, element by element, into a row that was made. -/
theorem Ev.copy {α β : Type} (f : α → β) (l : List α) (za : α) (zb : β) (L : Nat → List β → Int → Option (List β))
    (hstep : ∀ (j : Nat) (s r : List β), j < l.length → s.length = l.length → Ev (fun k => L k (s.set j (f (l.getD j za))) ((j + 1 : Nat) : Int)) r → Ev (fun k => L k s (j : Int)) r)
    (hend : ∀ s : List β, s.length = l.length → Ev (fun k => L k s (l.length : Int)) s) : Ev (fun k => L k (List.replicate l.length zb) 0) (l.map f) := by
  have key := Ev.upto (L := fun k j => L k ((l.map f).take j ++ List.replicate (l.length - j) zb) (j : Int)) (r := l.map f) (n := l.length)
    (by
      have h := hend ((l.map f).take l.length ++ List.replicate (l.length - l.length) zb) (by simp)
      refine Ev.eq h ?_
      rw [Nat.sub_self, List.replicate_zero, List.append_nil, List.take_of_length_le (by simp)])
    (by
      intro j hj h
      have hlen : ((l.map f).take j ++ List.replicate (l.length - j) zb).length = l.length := by simp; omega
      refine hstep j _ _ hj hlen ?_
      have e : ((l.map f).take j ++ List.replicate (l.length - j) zb).set j (f (l.getD j za)) = (l.map f).take (j + 1) ++ List.replicate (l.length - (j + 1)) zb := by
        have e1 : l.length - j = (l.length - (j + 1)) + 1 := by omega
        rw [e1, List.replicate_succ, List.set_append_right _ _ (by simp; omega)]
        have e2 : j - ((l.map f).take j).length = 0 := by simp; omega
        rw [e2, List.set_cons_zero, List.take_succ_eq_append_getElem (by simpa using hj)]
        simp [List.getD_eq_getElem?_getD, List.getElem?_eq_getElem hj]
      rw [e]
      exact h)
    0 (Nat.zero_le _)
  simpa using key
/-- What is left of a size, or that it was passed. -/
theorem Ev.sz {L : Nat → Nat → Int → Option Int} {n : Nat}
    (hstep : ∀ (j : Nat) (a : Int), j < n → 0 ≤ a → a ≤ 1048576 → (∃ a', 0 ≤ a' ∧ a' ≤ a ∧ ∀ r, Ev (fun k => L k (j + 1) a') r → Ev (fun k => L k j a) r) ∨ Ev (fun k => L k j a) (-1))
    (hend : ∀ a : Int, 0 ≤ a → a ≤ 1048576 → Ev (fun k => L k n a) a) :
    ∀ (j : Nat), j ≤ n → ∀ a : Int, 0 ≤ a → a ≤ 1048576 → ∃ r, r ≤ a ∧ Ev (fun k => L k j a) r := by
  intro j hj
  obtain ⟨d, hd⟩ : ∃ d, n = j + d := ⟨n - j, by omega⟩
  induction d generalizing j with
  | zero => simp at hd; subst hd; exact fun a h0 h1 => ⟨a, Int.le_refl _, hend a h0 h1⟩
  | succ d ih =>
    intro a h0 h1
    rcases hstep j a (by omega) h0 h1 with ⟨a', h2, h3, h4⟩ | h5
    · obtain ⟨r, h6, h7⟩ := ih (j + 1) (by omega) (by omega) a' h2 (by omega)
      exact ⟨r, by omega, h4 r h7⟩
    · exact ⟨-1, by omega, h5⟩
def inB (a b c : Int) : Bool := decide (b ≤ a ∧ a ≤ c)
theorem l1In_eq (a b c : Int) : spec_l1In.f a b c = some (inB a b c) := by
  unfold spec_l1In.f inB
  split <;> simp <;> omega
theorem within_eq (a b c : Int) : impl_within.f a b c = some (inB a b c) := by
  unfold impl_within.f inB
  split <;> simp <;> omega
def capAt (s : ByteArray) (j : Nat) : Bool := decide (65 ≤ bt s j ∧ bt s j ≤ 90)
def glossB (s : ByteArray) : Bool := inB s.size 1 8 && (List.range s.size).all (capAt s)
def caps : ByteArray := ⟨#[65, 66, 67, 68, 69, 70, 71, 72, 73, 74, 75, 76, 77, 78, 79, 80, 81, 82, 83, 84, 85, 86, 87, 88, 89, 90]⟩
theorem caps_all : ((List.range 256).all fun n => decide (Lib.indexByte caps.data.toList n.toUInt8 < 0) == !(decide (65 ≤ n ∧ n ≤ 90))) = true := by decide +kernel
theorem caps_index (b : Int) (h0 : 0 ≤ b) (h1 : b ≤ 255) : (Lib.indexByte caps.data.toList b.toNat.toUInt8 < 0) ↔ ¬ (65 ≤ b ∧ b ≤ 90) := by
  have h := List.all_eq_true.1 caps_all b.toNat (List.mem_range.2 (by omega))
  simp only [beq_iff_eq] at h
  by_cases hc : 65 ≤ b ∧ b ≤ 90
  · have h2 : decide (65 ≤ b.toNat ∧ b.toNat ≤ 90) = true := decide_eq_true (by omega)
    rw [h2] at h
    exact ⟨fun h3 => absurd h3 (of_decide_eq_false h), fun h3 => absurd hc h3⟩
  · have h2 : decide (65 ≤ b.toNat ∧ b.toNat ≤ 90) = false := decide_eq_false (by omega)
    rw [h2] at h
    exact ⟨fun _ => hc, fun _ => of_decide_eq_true h⟩
theorem hasOnly_ev (s : ByteArray) (hs : s.size < 4611686018427387904) : Ev (fun k => impl_hasOnly.f k s caps) ((List.range s.size).all (capAt s)) := by
  unfold impl_hasOnly.f
  refine Ev.eq (Ev.all0 (L := fun k j => impl_hasOnly.l0 k s caps (s.size : Int) (j : Int)) (P := capAt s) (n := s.size) (a := true) (b := false) ?_ ?_ ?_) (by split <;> simp_all)
  · refine Ev.succ ?_
    simp only [impl_hasOnly.l0, Int.lt_irrefl, if_false]
    exact Ev.now _
  · intro j r hj hP h
    refine Ev.succ ?_
    have h1 : ((j : Int) < (s.size : Int)) = True := eq_true (by omega)
    have hb := bt_range s (j : Int)
    have h2 : (Lib.indexByte caps.data.toList (bt s (j : Int)).toNat.toUInt8 < 0) = False := eq_false (fun hc => (caps_index _ hb.1 hb.2).1 hc (of_decide_eq_true hP))
    simp only [impl_hasOnly.l0, strings_IndexByte.f, Option.bind_some, h1, if_true, nat_nonneg, h2, if_false, wrap_succ (show j < 4611686018427387904 by omega)]
    exact h
  · intro j hj hP
    refine Ev.succ ?_
    have h1 : ((j : Int) < (s.size : Int)) = True := eq_true (by omega)
    have hb := bt_range s (j : Int)
    have h2 : (Lib.indexByte caps.data.toList (bt s (j : Int)).toNat.toUInt8 < 0) = True := eq_true ((caps_index _ hb.1 hb.2).2 (of_decide_eq_false hP))
    simp only [impl_hasOnly.l0, strings_IndexByte.f, Option.bind_some, h1, if_true, nat_nonneg, h2]
    exact Ev.now _
theorem isGloss_ev (s : ByteArray) (hs : s.size < 4611686018427387904) : Ev (fun k => impl_IsGloss.f k s) (glossB s) := by
  unfold impl_IsGloss.f impl_isWordOf.f glossB
  refine Ev.bind (a := inB s.size 1 8 && (List.range s.size).all (capAt s)) ?_ (Ev.now _)
  simp only [within_eq, Option.bind_some]
  rcases Bool.eq_false_or_eq_true (inB s.size 1 8) with h | h
  · simp only [h, if_true, Bool.true_and]
    exact Ev.bind (hasOnly_ev s hs) (Ev.now _)
  · simp only [h]
    exact Ev.now _
theorem enGloss_ev (s : ByteArray) (hs : s.size < 4611686018427387904) : Ev (fun k => spec_enGloss.f k s) (glossB s) := by
  unfold spec_enGloss.f
  refine Ev.eq (Ev.all0 (L := fun k j => spec_enGloss.l0 k s (j : Int)) (P := capAt s) (n := s.size) (a := inB s.size 1 8) (b := false) ?_ ?_ ?_) (by unfold glossB; split <;> simp_all)
  · refine Ev.succ ?_
    simp only [spec_enGloss.l0, Int.lt_irrefl, if_false, l1In_eq, Option.bind_some]
    exact Ev.now _
  · intro j r hj hP h
    refine Ev.succ ?_
    have h1 : ((j : Int) < (s.size : Int)) = True := eq_true (by omega)
    have hP' := of_decide_eq_true hP
    simp only [spec_enGloss.l0, h1, if_true, nat_nonneg, show (bt s (j : Int) < 65) = False from eq_false (by omega), show (bt s (j : Int) > 90) = False from eq_false (by omega), if_false, wrap_succ (show j < 4611686018427387904 by omega)]
    exact h
  · intro j hj hP
    refine Ev.succ ?_
    have h1 : ((j : Int) < (s.size : Int)) = True := eq_true (by omega)
    have hP' := of_decide_eq_false hP
    simp only [spec_enGloss.l0, h1, if_true, nat_nonneg]
    by_cases h2 : bt s (j : Int) < 65
    · simp only [eq_true h2, if_true]
      exact Ev.now _
    · simp only [eq_false h2, if_false, show (bt s (j : Int) > 90) = True from eq_true (by omega), if_true]
      exact Ev.now _
theorem rdSx (l : List ByteArray) (j : Nat) : rdOf ByteArray.empty l (j : Int) = l.getD j ByteArray.empty := by simp [rdOf]
theorem toStringS_ev (l : List ByteArray) (hl : l.length * 16 ≤ 140737488351232) : Ev (fun k => laws_toStringS.f k l) l := by
  unfold laws_toStringS.f
  simp only [nat_nonneg, if_true, Int.toNat_natCast, show (l.length ≤ 17592186044416) = True from eq_true (by omega)]
  have key := Ev.copy (fun x : ByteArray => x) l ByteArray.empty (⟨#[]⟩ : ByteArray) (fun k s j => laws_toStringS.l0 k l s j)
    (by
      intro j s r hj hs h
      refine Ev.succ ?_
      have h1 : ((j : Int) < (l.length : Int)) = True := eq_true (by omega)
      simp only [laws_toStringS.l0, h1, if_true, nat_nonneg, hs, Int.toNat_natCast, wrap_succ (show j < 4611686018427387904 by omega), rdSx]
      exact h)
    (by
      intro s hs
      refine Ev.succ ?_
      simp only [laws_toStringS.l0, Int.lt_irrefl, if_false]
      exact Ev.now _)
  simpa using key
theorem szStringS_ev (l : List ByteArray) (hl : l.length * 16 ≤ 140737488351232) (hz : ∀ y, y ∈ l → y.size ≤ 140737488351232) : ∃ r, (0 ≤ r → l.length ≤ 1048576) ∧ Ev (fun k => laws_szStringS.f k l 1048576) r := by
  unfold laws_szStringS.f
  rw [wrap_id (x := 1048576 - (l.length : Int)) (by omega) (by omega)]
  by_cases h0 : (1048576 : Int) - l.length < 0
  · refine ⟨-1, fun h => absurd h (by decide), ?_⟩
    simp only [eq_true h0, if_true]
    exact Ev.now _
  · obtain ⟨r, _, hr⟩ := Ev.sz (L := fun k j a => laws_szStringS.l0 k l a (j : Int)) (n := l.length)
      (by
        intro j a hj ha0 ha1
        have h1 : ((j : Int) < (l.length : Int)) = True := eq_true (by omega)
        have hs := hz (l.getD j ByteArray.empty) (by rw [List.getD_eq_getElem?_getD, List.getElem?_eq_getElem hj]; exact List.getElem_mem hj)
        by_cases hc : a - ((l.getD j ByteArray.empty).size : Int) < 0
        · refine .inr (Ev.succ ?_)
          simp only [laws_szStringS.l0, h1, if_true, nat_nonneg, rdSx, wrap_id (x := a - ((l.getD j ByteArray.empty).size : Int)) (by omega) (by omega), eq_true hc]
          exact Ev.now _
        · refine .inl ⟨a - ((l.getD j ByteArray.empty).size : Int), by omega, by omega, fun r h => Ev.succ ?_⟩
          simp only [laws_szStringS.l0, h1, if_true, nat_nonneg, rdSx, wrap_id (x := a - ((l.getD j ByteArray.empty).size : Int)) (by omega) (by omega), eq_false hc, if_false, wrap_succ (show j < 4611686018427387904 by omega)]
          exact h)
      (by
        intro a _ _
        refine Ev.succ ?_
        simp only [laws_szStringS.l0, Int.lt_irrefl, if_false]
        exact Ev.now _)
      0 (Nat.zero_le _) (1048576 - (l.length : Int)) (by omega) (by omega)
    refine ⟨r, fun _ => by omega, ?_⟩
    simp only [eq_false h0, if_false]
    exact hr
def tokB (l : List ByteArray) : Bool := decide (l.length ≤ 120) && l.all glossB
theorem tokB_len {l : List ByteArray} (h : tokB l = true) : l.length ≤ 120 := by
  unfold tokB at h
  rw [Bool.and_eq_true] at h
  exact of_decide_eq_true h.1
/-- Every text is short enough. -/
def TSz (l : List ByteArray) : Prop := ∀ y, y ∈ l → y.size ≤ 140737488351232
theorem tokAll_ev : ∀ l : List ByteArray, TSz l → Ev (fun k => impl_areTokens.all k l) (l.all glossB)
  | [], _ => Ev.now _
  | s :: l, hz => by
    unfold impl_areTokens.all
    have hs := hz s (List.mem_cons_self ..)
    refine Ev.bind (isGloss_ev s (by omega)) ?_
    refine Ev.bind (tokAll_ev l (fun y hy => hz y (List.mem_cons_of_mem _ hy))) ?_
    rw [List.all_cons]
    exact Ev.now _
theorem areTokens_ev (l : List ByteArray) (hz : TSz l) : Ev (fun k => impl_areTokens.f k l) (tokB l) := by
  unfold impl_areTokens.f tokB
  by_cases h : l.length ≤ 120
  · have h1 : ((l.length : Int) ≤ 120) = True := eq_true (by omega)
    simp only [h1, if_true, h, decide_true, Bool.true_and]
    exact tokAll_ev l hz
  · have h1 : ((l.length : Int) ≤ 120) = False := eq_false (by omega)
    simp only [h1, if_false, h, decide_false, Bool.false_and]
    exact Ev.now _
theorem all_range (l : List ByteArray) (p : ByteArray → Bool) : ((List.range l.length).all fun i => p (l.getD i ByteArray.empty)) = l.all p := by
  rw [Bool.eq_iff_iff, List.all_eq_true, List.all_eq_true]
  constructor
  · intro h x hx
    obtain ⟨i, hi, rfl⟩ := List.getElem_of_mem hx
    have := h i (List.mem_range.2 hi)
    simpa [List.getD_eq_getElem?_getD, List.getElem?_eq_getElem hi] using this
  · intro h i hi
    have hi' := List.mem_range.1 hi
    have := h l[i] (List.getElem_mem hi')
    simpa [List.getD_eq_getElem?_getD, List.getElem?_eq_getElem hi'] using this
theorem ctGood_ev (l : List ByteArray) (hl : l.length < 4611686018427387904) (hz : TSz l) : Ev (fun k => spec_ctGood.f k l) (tokB l) := by
  unfold spec_ctGood.f
  have hg : ∀ j, j < l.length → (l.getD j ByteArray.empty).size < 4611686018427387904 := by
    intro j hj
    have := hz (l.getD j ByteArray.empty) (by rw [List.getD_eq_getElem?_getD, List.getElem?_eq_getElem hj]; exact List.getElem_mem hj)
    omega
  have key := Ev.all0 (L := fun k j => spec_ctGood.l0 k l l (l.length : Int) (j : Int)) (P := fun i => glossB (l.getD i ByteArray.empty)) (n := l.length) (a := decide (l.length ≤ 120)) (b := false)
    (by
      refine Ev.succ ?_
      simp only [spec_ctGood.l0, Int.lt_irrefl, if_false]
      refine Ev.eq (Ev.now _) ?_
      rw [decide_eq_decide]
      omega)
    (by
      intro j r hj hP h
      refine Ev.succ ?_
      have h1 : ((j : Int) < (l.length : Int)) = True := eq_true (by omega)
      simp only [spec_ctGood.l0, h1, if_true, nat_nonneg, rdSx, wrap_succ (show j < 4611686018427387904 by omega)]
      refine Ev.bind (enGloss_ev _ (hg j hj)) ?_
      simp only [hP, if_true]
      exact h)
    (by
      intro j hj hP
      refine Ev.succ ?_
      have h1 : ((j : Int) < (l.length : Int)) = True := eq_true (by omega)
      simp only [spec_ctGood.l0, h1, if_true, nat_nonneg, rdSx]
      refine Ev.bind (enGloss_ev _ (hg j hj)) ?_
      simp only [hP]
      exact Ev.now _)
  refine Ev.eq key ?_
  rw [all_range]
  unfold tokB
  cases l.all glossB <;> simp
theorem rdS (l : List ByteArray) (j : Nat) : rdOf ByteArray.empty l (j : Int) = l.getD j ByteArray.empty := by simp [rdOf]
theorem eqStringS_ev (l : List ByteArray) (hl : l.length < 4611686018427387904) : Ev (fun k => laws_eqStringS.f k l l) true := by
  unfold laws_eqStringS.f
  simp only [if_true]
  exact Ev.upto (L := fun k j => laws_eqStringS.l0 k l l (j : Int)) (r := true) (n := l.length)
    (by
      refine Ev.succ ?_
      simp only [laws_eqStringS.l0, Int.lt_irrefl, if_false]
      exact Ev.now _)
    (by
      intro j hj h
      refine Ev.succ ?_
      have h1 : ((j : Int) < (l.length : Int)) = True := eq_true (by omega)
      simp only [laws_eqStringS.l0, h1, if_true, nat_nonneg, wrap_succ (show j < 4611686018427387904 by omega)]
      exact h)
    0 (Nat.zero_le _)
end Go.Proofs.Ytidlgfgadiknfaa.Pure
namespace Go.Proofs.Ytidlgfgadiknfaa.Pure
open Go.RowKit Go.Proofs.Ytidlgfgadiknfaa.Q Go.Proofs.YtidlgfgadiknfaaW.PrintWords Go.Proofs.YtidlgfgadiknfaaW.PrintLast
open Go.Proofs.YtidlgfgadiknfaaW.GBst (hits cnt pick bestN bestOf hits_bounds)

theorem tl_iff (a b : ByteArray) : (a.toList = b.toList) = (a = b) := by
  rw [ByteArray.toList_eq, ByteArray.toList_eq]
  refine propext ⟨fun h => ?_, fun h => by rw [h]⟩
  cases a; cases b
  congr 1
  exact Array.toList_inj.1 h
theorem bl_iff (a b : ByteArray) : (Op.bytesLess a.toList b.toList = true) = (a.data.toList < b.data.toList) := by
  rw [ByteArray.toList_eq, ByteArray.toList_eq, Go.Proofs.bytesLess_eq]
  exact decide_eq_true_eq
theorem mpPick_ev {l : List ByteArray} {x6 x7 : ByteArray} {x8 x9 : Int} {X Y : ByteArray} {r : ByteArray × ByteArray × Int × Bool} {q : Nat} (hq : q + 1 = l.length) (key : Ev (fun k => spec_MostPair.l0 k l (pick l (x6, x7, x8) X Y).1 (pick l (x6, x7, x8) X Y).2.1 (pick l (x6, x7, x8) X Y).2.2 (wrap64 (x9 + 1))) r) : Ev (fun k => spec_MostPair.l1 k l x6 x7 x8 x9 X Y (hits l X Y q) ((q + 1 : Nat) : Int)) r := by
  have hc : hits l X Y q = cnt l X Y := by unfold cnt; rw [show l.length - 1 = q by omega]
  rw [hc]
  refine Ev.succ ?_
  simp only [spec_MostPair.l1, show (((q + 1 : Nat) : Int) < (l.length : Int)) = False from eq_false (by omega), if_false, tl_iff, bl_iff]
  unfold pick at key
  by_cases h1 : cnt l X Y > x8
  · rw [if_pos (Or.inl h1)] at key
    simp only [eq_true h1, if_true]
    exact key
  · simp only [eq_false h1, if_false]
    by_cases h2 : cnt l X Y = x8
    · simp only [eq_true h2, if_true]
      by_cases h3 : X.data.toList < x6.data.toList
      · rw [if_pos (Or.inr ⟨h2, Or.inl h3⟩)] at key
        simp only [eq_true h3, if_true]
        exact key
      · simp only [eq_false h3, if_false]
        by_cases h4 : X = x6
        · simp only [eq_true h4, if_true]
          by_cases h5 : Y.data.toList < x7.data.toList
          · rw [if_pos (Or.inr ⟨h2, Or.inr ⟨h4, h5⟩⟩)] at key
            simp only [eq_true h5, if_true]
            exact key
          · rw [if_neg (fun h => h.elim (fun h => h1 h) fun h => h.2.elim (fun h => h3 h) fun h => h5 h.2)] at key
            simp only [eq_false h5, if_false]
            exact key
        · rw [if_neg (fun h => h.elim (fun h => h1 h) fun h => h.2.elim (fun h => h3 h) fun h => h4 h.1)] at key
          simp only [eq_false h4, if_false]
          exact key
    · rw [if_neg (fun h => h.elim (fun h => h1 h) fun h => h2 h.1)] at key
      simp only [eq_false h2, if_false]
      exact key
theorem mpCount_ev {l : List ByteArray} (hn : l.length ≤ 120) {x6 x7 : ByteArray} {x8 x9 : Int} {X Y : ByteArray} {r : ByteArray × ByteArray × Int × Bool} (key : Ev (fun k => spec_MostPair.l0 k l (pick l (x6, x7, x8) X Y).1 (pick l (x6, x7, x8) X Y).2.1 (pick l (x6, x7, x8) X Y).2.2 (wrap64 (x9 + 1))) r) : ∀ d q, q + 1 + d = l.length → Ev (fun k => spec_MostPair.l1 k l x6 x7 x8 x9 X Y (hits l X Y q) ((q + 1 : Nat) : Int)) r := by
  intro d
  induction d with
  | zero => intro q hq; exact mpPick_ev (by omega) key
  | succ d ih =>
    intro q hq
    have k2 := ih (q + 1) (by omega)
    have hb := hits_bounds l X Y q
    have hw : wrap64 (hits l X Y q + 1) = hits l X Y q + 1 := wrap_id (by omega) (by omega)
    rw [hits] at k2
    refine Ev.succ ?_
    simp only [spec_MostPair.l1, show (((q + 1 : Nat) : Int) < (l.length : Int)) = True from eq_true (by omega), if_true, wrap_pred (show 0 < q + 1 by omega) (show q + 1 < 4611686018427387904 by omega), Nat.add_sub_cancel, nat_nonneg, show ((q : Int) < (l.length : Int)) = True from eq_true (by omega), rdS, wrap_succ (show q + 1 < 4611686018427387904 by omega), tl_iff, hw]
    by_cases h1 : l.getD q ByteArray.empty = X
    · by_cases h2 : l.getD (q + 1) ByteArray.empty = Y
      · rw [if_pos ⟨by omega, h1, h2⟩] at k2
        simp only [eq_true h1, eq_true h2, if_true]
        exact k2
      · rw [if_neg (fun h => h2 h.2.2), Int.add_zero] at k2
        simp only [eq_true h1, eq_false h2, if_true, if_false]
        exact k2
    · rw [if_neg (fun h => h1 h.2.1), Int.add_zero] at k2
      simp only [eq_false h1, if_false]
      exact k2
def mpR (l : List ByteArray) : ByteArray × ByteArray × Int × Bool := ((bestOf l).1, (bestOf l).2.1, (bestOf l).2.2, true)
theorem mpOuter_ev {l : List ByteArray} (hn : l.length ≤ 120) : ∀ d j, j + 1 + d = l.length → Ev (fun k => spec_MostPair.l0 k l (bestN l j).1 (bestN l j).2.1 (bestN l j).2.2 ((j + 1 : Nat) : Int)) (mpR l) := by
  intro d
  induction d with
  | zero =>
    intro j hj
    refine Ev.succ ?_
    simp only [spec_MostPair.l0, show (((j + 1 : Nat) : Int) < (l.length : Int)) = False from eq_false (by omega), if_false]
    refine Ev.eq (Ev.now _) ?_
    unfold mpR bestOf
    rw [show l.length - 1 = j by omega]
  | succ d ih =>
    intro j hj
    have k2 := ih (j + 1) (by omega)
    rw [bestN] at k2
    have k3 := mpCount_ev (x6 := (bestN l j).1) (x7 := (bestN l j).2.1) (x8 := (bestN l j).2.2) (x9 := ((j + 1 : Nat) : Int)) hn (by rw [wrap_succ (show j + 1 < 4611686018427387904 by omega)]; exact k2) (l.length - 1) 0 (by omega)
    refine Ev.succ ?_
    simp only [spec_MostPair.l0, show (((j + 1 : Nat) : Int) < (l.length : Int)) = True from eq_true (by omega), if_true, wrap_pred (show 0 < j + 1 by omega) (show j + 1 < 4611686018427387904 by omega), Nat.add_sub_cancel, nat_nonneg, show ((j : Int) < (l.length : Int)) = True from eq_true (by omega), rdS]
    exact k3
def mostR (l : List ByteArray) : ByteArray × ByteArray × Int × Bool := if tokB l then (if l.length < 2 then (⟨#[]⟩, ⟨#[]⟩, 0, false) else mpR l) else (⟨#[]⟩, ⟨#[]⟩, 0, false)
theorem specMP_ev (l : List ByteArray) (hl : l.length ≤ 1048576) (hz : TSz l) : Ev (fun k => spec_MostPair.f k l) (mostR l) := by
  unfold spec_MostPair.f mostR
  refine Ev.bind (ctGood_ev l (by omega) hz) ?_
  rcases Bool.eq_false_or_eq_true (tokB l) with ht | ht
  · have h120 := tokB_len ht
    simp only [ht, if_true]
    by_cases h2 : l.length < 2
    · refine Ev.succ ?_
      simp only [spec_MostPair.j0, decide_eq_true (show (l.length : Int) < 2 by omega), if_true, eq_true h2]
      exact Ev.now _
    · refine Ev.succ ?_
      simp only [spec_MostPair.j0, decide_eq_false (show ¬ (l.length : Int) < 2 by omega), Bool.false_eq_true, if_false, eq_false h2]
      exact mpOuter_ev h120 (l.length - 1) 0 (by omega)
  · refine Ev.succ ?_
    simp only [ht, Bool.false_eq_true, if_false, spec_MostPair.j0, if_true]
    exact Ev.now _
theorem tok_sizes {l : List ByteArray} (h : tokB l = true) : (l.all fun s => decide (s.size ≤ 1048576)) = true := by
  unfold tokB at h
  rw [Bool.and_eq_true] at h
  refine List.all_eq_true.2 fun s hs => decide_eq_true ?_
  have h1 := List.all_eq_true.1 h.2 s hs
  unfold glossB inB at h1
  simp only [Bool.and_eq_true, decide_eq_true_eq] at h1
  omega
theorem implMP_ev (l : List ByteArray) (hl : l.length ≤ 1048576) (hz : TSz l) : Ev (fun k => impl_MostPair.f k l) (mostR l) := by
  unfold impl_MostPair.f mostR
  refine Ev.bind (areTokens_ev l hz) ?_
  rcases Bool.eq_false_or_eq_true (tokB l) with ht | ht
  · simp only [ht, if_true, eq_true hl, tok_sizes ht]
    by_cases h2 : l.length < 2
    · simp only [eq_true h2, if_true]
      exact Ev.now _
    · simp only [eq_false h2, if_false]
      exact Ev.now _
  · simp only [ht, Bool.false_eq_true, if_false]
    exact Ev.now _
theorem FnExactMostPair : laws_FnExactMostPair.Pure := by
  intro l h hz
  obtain ⟨r, hb, hr⟩ := szStringS_ev l h hz
  refine Ev.rounds ?_
  unfold laws_FnExactMostPair.f
  refine Ev.bind hr ?_
  by_cases h0 : r < 0
  · simp only [eq_true h0, if_true]
    exact Ev.now _
  simp only [eq_false h0, if_false]
  have hl := hb (by omega)
  refine Ev.bind (toStringS_ev l h) ?_
  refine Ev.bind (specMP_ev l hl hz) ?_
  refine Ev.bind (toStringS_ev l h) ?_
  refine Ev.bind (implMP_ev l hl hz) ?_
  simp only [bne_self_eq_false, if_true]
  refine Ev.succ ?_
  simp only [laws_FnExactMostPair.j0, Bool.false_eq_true, if_false]
  refine Ev.bind (toStringS_ev l h) ?_
  refine Ev.bind (eqStringS_ev _ (by omega)) ?_
  simp only [if_true]
  exact Ev.now _
end Go.Proofs.Ytidlgfgadiknfaa.Pure
