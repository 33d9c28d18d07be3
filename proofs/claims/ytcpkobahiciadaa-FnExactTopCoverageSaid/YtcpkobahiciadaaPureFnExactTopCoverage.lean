/- For all texts and numbers, the program's TopCoverage returns what the reference's TopCoverage returns, and leaves the list alone. No condition. -/
import Derived.Test.YtcpkobahiciadaaQBImplPlacesOf
import Derived.Test.YtcpkobahiciadaaQBLawsEqStringS
import Derived.Test.YtcpkobahiciadaaQBSlicesCloneString
import Derived.Test.YtcpkobahiciadaaQBSlicesStableCmpFuncString
import Derived.Test.YtcpkobahiciadaaQBSlicesSwapRangeCmpFuncString
import Derived.Test.YtcpkobahiciadaaQBSpecCtCount
import Derived.Test.YtcpkobahiciadaaQBSpecCtTop
import Derived.Test.YtcpkobahiciadaaQImplAreTokens
import Derived.Test.YtcpkobahiciadaaQImplRanked
import Derived.Test.YtcpkobahiciadaaQLawsFnExactTopCoverage
import Derived.Test.YtcpkobahiciadaaQSlicesInsertionSortCmpFuncString
import Derived.Test.YtcpkobahiciadaaQSlicesSymMergeCmpFuncString
import Derived.Test.YtcpkobahiciadaaQSpecCtPut
import Derived.Test.YtcpkobahiciadaaQSpecCtRanked
import Derived.Test.YtcpkobahiciadaaQ0
import Derived.Test.YtcpkobahiciadaaWWords
import Derived.Lib.SlicesCompact
import Derived.Sort.Walk0
import Derived.Test.YtcpkobahiciadaaGStr
import Derived.Lib.Bytealg
set_option linter.unusedVariables false
set_option linter.unusedSimpArgs false
namespace Go.Proofs.Ytcpkobahiciadaa.Pure
open Go.RowKit Go.Proofs.Ytcpkobahiciadaa.Q Go.Proofs.YtcpkobahiciadaaW.PrintLast Go.Proofs.YtcpkobahiciadaaW.PrintWords
theorem Ev.succ {α : Type} {g : Nat → Option α} {r : α} (h : Ev (fun k => g (k + 1)) r) : Ev g r := Ev.step (fun _ => rfl) h
theorem Ev.k {α : Type} {g : Nat → Option α} {o : Option α} {r : α} (hg : ∀ k, g k = o) (h : o = some r) : Ev g r := ⟨0, fun k _ => (hg k).trans h⟩
theorem Ev.eq {α : Type} {g : Nat → Option α} {r r' : α} (h : Ev g r) (e : r = r') : Ev g r' := e ▸ h
/-- From round i up to round n. -/
theorem Ev.upto {β : Type} {L : Nat → Nat → Option β} {r : β} {n : Nat} (hend : Ev (fun k => L k n) r)
    (hstep : ∀ j, j < n → Ev (fun k => L k (j + 1)) r → Ev (fun k => L k j) r) : ∀ i, i ≤ n → Ev (fun k => L k i) r := by
  intro i hi
  obtain ⟨d, hd⟩ : ∃ d, n = i + d := ⟨n - i, by omega⟩
  induction d generalizing i with
  | zero => simp at hd; subst hd; exact hend
  | succ d ih => exact hstep i (by omega) (ih (i + 1) (by omega) (by omega))
/-- A loop that ends early where P fails. -/
theorem Ev.all {β : Type} {L : Nat → Nat → Option β} {P : Nat → Bool} {n : Nat} {a b : β} (hend : Ev (fun k => L k n) a)
    (hyes : ∀ j r, j < n → P j = true → Ev (fun k => L k (j + 1)) r → Ev (fun k => L k j) r) (hno : ∀ j, j < n → P j = false → Ev (fun k => L k j) b) :
    ∀ i, i ≤ n → Ev (fun k => L k i) (if (List.range' i (n - i)).all P then a else b) := by
  intro i hi
  obtain ⟨d, hd⟩ : ∃ d, n = i + d := ⟨n - i, by omega⟩
  induction d generalizing i with
  | zero => simp at hd; subst hd; simpa using hend
  | succ d ih =>
    have h1 : n - i = (n - (i + 1)) + 1 := by omega
    rw [h1, List.range'_succ]
    simp only [List.all_cons]
    rcases Bool.eq_false_or_eq_true (P i) with hP | hP
    · simp only [hP, Bool.true_and]
      exact hyes i _ (by omega) hP (ih (i + 1) (by omega) (by omega))
    · simpa [hP] using hno i (by omega) hP
theorem Ev.all0 {β : Type} {L : Nat → Nat → Option β} {P : Nat → Bool} {n : Nat} {a b : β} (hend : Ev (fun k => L k n) a)
    (hyes : ∀ j r, j < n → P j = true → Ev (fun k => L k (j + 1)) r → Ev (fun k => L k j) r) (hno : ∀ j, j < n → P j = false → Ev (fun k => L k j) b) :
    Ev (fun k => L k 0) (if (List.range n).all P then a else b) := by
  have := Ev.all hend hyes hno 0 (Nat.zero_le _)
  rwa [Nat.sub_zero, ← List.range_eq_range'] at this

theorem wrap_id {x : Int} (h0 : -9223372036854775808 ≤ x) (h1 : x ≤ 9223372036854775807) : wrap64 x = x := by
  unfold wrap64
  omega
theorem wrap_succ {n : Nat} (h : n < 4611686018427387904) : wrap64 ((n : Int) + 1) = ((n + 1 : Nat) : Int) := by
  rw [wrap_id (by omega) (by omega)]
  omega
theorem wrap_pred {n : Nat} (h0 : 0 < n) (h : n < 4611686018427387904) : wrap64 ((n : Int) - 1) = ((n - 1 : Nat) : Int) := by
  rw [wrap_id (by omega) (by omega)]
  omega
theorem nat_nonneg (n : Nat) : (0 ≤ (n : Int)) = True := eq_true (Int.natCast_nonneg n)
/-- A copy, element by element, into a row that was made. -/
theorem Ev.copy {α β : Type} (f : α → β) (l : List α) (za : α) (zb : β) (L : Nat → List β → Int → Option (List β))
    (hstep : ∀ (j : Nat) (s r : List β), j < l.length → s.length = l.length → Ev (fun k => L k (s.set j (f (l.getD j za))) ((j + 1 : Nat) : Int)) r → Ev (fun k => L k s (j : Int)) r)
    (hend : ∀ s : List β, s.length = l.length → Ev (fun k => L k s (l.length : Int)) s) : Ev (fun k => L k (List.replicate l.length zb) 0) (l.map f) := by
  have key := Ev.upto (L := fun k j => L k ((l.map f).take j ++ List.replicate (l.length - j) zb) (j : Int)) (r := l.map f) (n := l.length)
    (by
      have h := hend ((l.map f).take l.length ++ List.replicate (l.length - l.length) zb) (by simp)
      refine Ev.eq h ?_
      rw [Nat.sub_self, List.replicate_zero, List.append_nil, List.take_of_length_le (by simp)])
    (by
      intro j hj h
      have hlen : ((l.map f).take j ++ List.replicate (l.length - j) zb).length = l.length := by simp; omega
      refine hstep j _ _ hj hlen ?_
      have e : ((l.map f).take j ++ List.replicate (l.length - j) zb).set j (f (l.getD j za)) = (l.map f).take (j + 1) ++ List.replicate (l.length - (j + 1)) zb := by
        have e1 : l.length - j = (l.length - (j + 1)) + 1 := by omega
        rw [e1, List.replicate_succ, List.set_append_right _ _ (by simp; omega)]
        have e2 : j - ((l.map f).take j).length = 0 := by simp; omega
        rw [e2, List.set_cons_zero, List.take_succ_eq_append_getElem (by simpa using hj)]
        simp [List.getD_eq_getElem?_getD, List.getElem?_eq_getElem hj]
      rw [e]
      exact h)
    0 (Nat.zero_le _)
  simpa using key
/-- What is left of a size, or that it was passed. -/
theorem Ev.sz {L : Nat → Nat → Int → Option Int} {n : Nat}
    (hstep : ∀ (j : Nat) (a : Int), j < n → 0 ≤ a → a ≤ 1048576 → (∃ a', 0 ≤ a' ∧ a' ≤ a ∧ ∀ r, Ev (fun k => L k (j + 1) a') r → Ev (fun k => L k j a) r) ∨ Ev (fun k => L k j a) (-1))
    (hend : ∀ a : Int, 0 ≤ a → a ≤ 1048576 → Ev (fun k => L k n a) a) :
    ∀ (j : Nat), j ≤ n → ∀ a : Int, 0 ≤ a → a ≤ 1048576 → ∃ r, r ≤ a ∧ Ev (fun k => L k j a) r := by
  intro j hj
  obtain ⟨d, hd⟩ : ∃ d, n = j + d := ⟨n - j, by omega⟩
  induction d generalizing j with
  | zero => simp at hd; subst hd; exact fun a h0 h1 => ⟨a, Int.le_refl _, hend a h0 h1⟩
  | succ d ih =>
    intro a h0 h1
    rcases hstep j a (by omega) h0 h1 with ⟨a', h2, h3, h4⟩ | h5
    · obtain ⟨r, h6, h7⟩ := ih (j + 1) (by omega) (by omega) a' h2 (by omega)
      exact ⟨r, by omega, h4 r h7⟩
    · exact ⟨-1, by omega, h5⟩
theorem rdAt {A C : List ByteArray} {x : ByteArray} {i : Int} (h : i = (A.length : Int)) : rdOf ByteArray.empty (A ++ x :: C) i = x := by
  subst h
  simp [rdOf]
theorem setAt {A C : List ByteArray} {x y : ByteArray} {n : Nat} (h : n = A.length) : (A ++ x :: C).set n y = A ++ y :: C := by
  subst h
  rw [List.set_append_right _ _ (Nat.le_refl _), Nat.sub_self, List.set_cons_zero]
theorem u64_big (b : Int) (h0 : 0 ≤ b) (h1 : b ≤ 9223372036854775807) : IntKind.u64.wrap b = b := by
  show b % 18446744073709551616 = b
  omega
theorem mid_eq (i j : Nat) (h : i + j < 4611686018427387904) : wrap64 ((IntKind.u64.wrap (wrap64 ((i : Int) + (j : Int)))) / 2) = (((i + j) / 2 : Nat) : Int) := by
  rw [wrap_id (x := (i : Int) + (j : Int)) (by omega) (by omega), u64_big _ (by omega) (by omega), wrap_id (x := ((i : Int) + (j : Int)) / 2) (by omega) (by omega)]
  omega
theorem sw_nums {p x m y q a b i n : Nat} (hn : i + (x + 1) = n) (ha : a + i = p) (hb : b + i = p + (x + 1) + m) (hL : p + x + m + y + q + 2 ≤ 1048576) :
    wrap64 ((b : Int) + (i : Int)) = ((p + x + 1 + m : Nat) : Int) ∧ wrap64 ((a : Int) + (i : Int)) = ((p : Nat) : Int) ∧ ((i : Int) < (n : Int)) = True ∧ (((p + x + 1 + m : Nat) : Int) < ((p + x + m + y + q + 2 : Nat) : Int)) = True ∧ (((p : Nat) : Int) < ((p + x + m + y + q + 2 : Nat) : Int)) = True ∧ wrap64 ((i : Int) + 1) = ((i + 1 : Nat) : Int) := by
  refine ⟨?_, ?_, eq_true (by omega), eq_true (by omega), eq_true (by omega), wrap_succ (by omega)⟩
  · rw [wrap_id (x := (b : Int) + (i : Int)) (by omega) (by omega)]; omega
  · rw [wrap_id (x := (a : Int) + (i : Int)) (by omega) (by omega)]; omega
theorem rot_nums {a l r : Nat} (h : a + l + r ≤ 1048576) : wrap64 (((a + l : Nat) : Int) - (l : Int)) = (a : Int) ∧ (l < r → wrap64 ((wrap64 (((a + l : Nat) : Int) + (r : Int))) - (l : Int)) = ((a + r : Nat) : Int) ∧ wrap64 ((r : Int) - (l : Int)) = ((r - l : Nat) : Int)) ∧ (r < l → wrap64 ((l : Int) - (r : Int)) = ((l - r : Nat) : Int)) := by
  refine ⟨?_, fun h2 => ⟨?_, ?_⟩, fun h2 => ?_⟩
  · rw [wrap_id (x := ((a + l : Nat) : Int) - (l : Int)) (by omega) (by omega)]; omega
  · rw [wrap_id (x := ((a + l : Nat) : Int) + (r : Int)) (by omega) (by omega), wrap_id (x := ((a + l : Nat) : Int) + (r : Int) - (l : Int)) (by omega) (by omega)]; omega
  · rw [wrap_id (x := (r : Int) - (l : Int)) (by omega) (by omega)]; omega
  · rw [wrap_id (x := (l : Int) - (r : Int)) (by omega) (by omega)]; omega
/-! swaps -/
set_option maxHeartbeats 2000000 in
theorem swap_l0 : ∀ (X Y : List ByteArray) (n : Nat) (P M Q : List ByteArray) (a b i : Nat), X.length = Y.length → i + X.length = n → a + i = P.length → b + i = P.length + X.length + M.length → (P ++ X ++ M ++ Y ++ Q).length ≤ 1048576 →
    Ev (fun k => slices_swapRangeCmpFunc_string.l0 k (P ++ X ++ M ++ Y ++ Q) (a : Int) (b : Int) (n : Int) (i : Int)) (P ++ Y ++ M ++ X ++ Q) := by
  intro X
  induction X with
  | nil =>
    intro Y n P M Q a b i hl hn ha hb hL
    obtain rfl : Y = [] := List.eq_nil_of_length_eq_zero (by simpa using hl.symm)
    refine Ev.succ ?_
    simp only [slices_swapRangeCmpFunc_string.l0, show ((i : Int) < (n : Int)) = False from eq_false (by simp at hn; omega), if_false]
    exact Ev.now _
  | cons x X ih =>
    intro Y n P M Q a b i hl hn ha hb hL
    cases Y with
    | nil => simp at hl
    | cons y Y =>
      simp only [List.length_cons] at hl hn hb
      have hL0 : (P ++ (x :: X) ++ M ++ (y :: Y) ++ Q).length = P.length + X.length + M.length + Y.length + Q.length + 2 := by simp; omega
      rw [hL0] at hL
      have HL0 := Aside0.mk hL0
      clear hL0
      obtain ⟨e1, e2, g1, g2, g3, g4⟩ := sw_nums hn ha hb hL
      have e3 : P ++ (x :: X) ++ M ++ (y :: Y) ++ Q = P ++ x :: (X ++ M ++ y :: (Y ++ Q)) := by simp
      have e4 : P ++ (x :: X) ++ M ++ (y :: Y) ++ Q = (P ++ x :: (X ++ M)) ++ y :: (Y ++ Q) := by simp
      have r1 : rdOf ByteArray.empty (P ++ (x :: X) ++ M ++ (y :: Y) ++ Q) ((P.length : Nat) : Int) = x := by rw [e3]; exact rdAt rfl
      have r2 : rdOf ByteArray.empty (P ++ (x :: X) ++ M ++ (y :: Y) ++ Q) ((P.length + X.length + 1 + M.length : Nat) : Int) = y := by rw [e4]; exact rdAt (by simp; omega)
      have s1 : (P ++ (x :: X) ++ M ++ (y :: Y) ++ Q).set P.length y = (P ++ y :: (X ++ M)) ++ y :: (Y ++ Q) := by rw [e3, setAt rfl]; simp
      have s2 : ((P ++ (x :: X) ++ M ++ (y :: Y) ++ Q).set P.length y).set (P.length + X.length + 1 + M.length) x = (P ++ [y]) ++ X ++ (M ++ [x]) ++ Y ++ Q := by rw [s1, setAt (by simp; omega)]; simp
      have key := ih Y n (P ++ [y]) (M ++ [x]) Q a b (i + 1) (by omega) (by omega) (by simp; omega) (by simp; omega) (by simp; omega)
      have e5 : (P ++ [y]) ++ Y ++ (M ++ [x]) ++ X ++ Q = P ++ (y :: Y) ++ M ++ (x :: X) ++ Q := by simp
      rw [e5] at key
      refine Ev.succ ?_
      simp only [slices_swapRangeCmpFunc_string.l0, g1, if_true, e1, e2, nat_nonneg, HL0.out, g2, g3, r1, r2, Int.toNat_natCast, s2, g4]
      exact key
set_option maxHeartbeats 2000000 in
theorem rot_l0 (x4 : Int) : ∀ (s : Nat) (L R A B : List ByteArray), L.length + R.length ≤ s → 0 < L.length → 0 < R.length → (A ++ L ++ R ++ B).length ≤ 1048576 →
    Ev (fun k => slices_rotateCmpFunc_string.l0 k (A ++ L ++ R ++ B) ((A.length + L.length : Nat) : Int) x4 (L.length : Int) (R.length : Int)) (A ++ R ++ L ++ B) := by
  intro s
  induction s with
  | zero => intro L R A B h1 h2; omega
  | succ s ih =>
    intro L R A B hs h1 h2 hL
    have hLl : (A ++ L ++ R ++ B).length = A.length + L.length + R.length + B.length := by simp; omega
    rw [hLl] at hL
    clear hLl
    obtain ⟨e1, n2, n3⟩ := rot_nums (a := A.length) (l := L.length) (r := R.length) (by omega)
    refine Ev.succ ?_
    rcases Nat.lt_trichotomy L.length R.length with h | h | h
    · have hR : R = R.take (R.length - L.length) ++ R.drop (R.length - L.length) := (List.take_append_drop _ _).symm
      generalize hR1 : R.take (R.length - L.length) = R1 at hR
      generalize hR2 : R.drop (R.length - L.length) = R2 at hR
      have l1 : R1.length = R.length - L.length := by rw [← hR1, List.length_take]; omega
      have l2 : R2.length = L.length := by rw [← hR2, List.length_drop]; omega
      obtain ⟨e2, e3⟩ := n2 h
      rw [← l1] at e3
      simp only [slices_rotateCmpFunc_string.l0, show ((L.length : Int) = (R.length : Int)) = False from eq_false (by omega), show ((L.length : Int) > (R.length : Int)) = False from eq_false (by omega), if_false, e1, e2, e3]
      have hsw := swap_l0 L R2 L.length A R1 B A.length (A.length + R.length) 0 l2.symm (by omega) (by omega) (by omega) (by simp; omega)
      have el : A ++ L ++ R ++ B = A ++ L ++ R1 ++ R2 ++ B := by rw [hR]; simp
      have key := ih R2 R1 A (L ++ B) (by omega) (by omega) (by omega) (by simp; omega)
      rw [el]
      refine Ev.bind (a := A ++ R2 ++ R1 ++ L ++ B) (by unfold slices_swapRangeCmpFunc_string.f; exact hsw) ?_
      have e4 : A ++ R2 ++ R1 ++ (L ++ B) = A ++ R2 ++ R1 ++ L ++ B := by simp
      have e5 : A ++ R1 ++ R2 ++ (L ++ B) = A ++ R ++ L ++ B := by rw [hR]; simp
      rw [e4, e5, l2] at key
      exact key
    · simp only [slices_rotateCmpFunc_string.l0, show ((L.length : Int) = (R.length : Int)) = True from eq_true (by omega), if_true, e1]
      have hsw := swap_l0 L R L.length A [] B A.length (A.length + L.length) 0 h (by omega) (by omega) (by simp) (by simp; omega)
      simp only [List.append_nil] at hsw
      refine Ev.bind (a := A ++ R ++ L ++ B) (by unfold slices_swapRangeCmpFunc_string.f; exact hsw) ?_
      exact Ev.now _
    · have hR : L = L.take R.length ++ L.drop R.length := (List.take_append_drop _ _).symm
      generalize hR1 : L.take R.length = L1 at hR
      generalize hR2 : L.drop R.length = L2 at hR
      have l1 : L1.length = R.length := by rw [← hR1, List.length_take]; omega
      have l2 : L2.length = L.length - R.length := by rw [← hR2, List.length_drop]
      have e3 := n3 h
      rw [← l2] at e3
      simp only [slices_rotateCmpFunc_string.l0, show ((L.length : Int) = (R.length : Int)) = False from eq_false (by omega), show ((L.length : Int) > (R.length : Int)) = True from eq_true (by omega), if_false, if_true, e1, e3]
      have hsw := swap_l0 L1 R R.length A L2 B A.length (A.length + L.length) 0 l1 (by omega) (by omega) (by omega) (by simp; omega)
      have el : A ++ L ++ R ++ B = A ++ L1 ++ L2 ++ R ++ B := by rw [hR]; simp
      have key := ih L2 L1 (A ++ R) B (by omega) (by omega) (by omega) (by simp; omega)
      rw [el]
      refine Ev.bind (a := A ++ R ++ L2 ++ L1 ++ B) (by unfold slices_swapRangeCmpFunc_string.f; exact hsw) ?_
      have e5 : A ++ R ++ L1 ++ L2 ++ B = A ++ R ++ L ++ B := by rw [hR]; simp
      have e6 : (A ++ R).length + L2.length = A.length + L.length := by simp; omega
      rw [e5, l1, e6] at key
      exact key
theorem rot_ev (x4 : Int) (L R A B : List ByteArray) (h1 : 0 < L.length) (h2 : 0 < R.length) (hL : (A ++ L ++ R ++ B).length ≤ 1048576) :
    Ev (fun k => slices_rotateCmpFunc_string.f k (A ++ L ++ R ++ B) (A.length : Int) ((A.length + L.length : Nat) : Int) ((A.length + L.length + R.length : Nat) : Int) x4) (A ++ R ++ L ++ B) := by
  have hLl : (A ++ L ++ R ++ B).length = A.length + L.length + R.length + B.length := by simp; omega
  have HL := Aside0.mk hL
  rw [hLl] at hL
  clear hLl
  unfold slices_rotateCmpFunc_string.f
  rw [wrap_id (x := ((A.length + L.length : Nat) : Int) - (A.length : Int)) (by omega) (by omega), wrap_id (x := ((A.length + L.length + R.length : Nat) : Int) - ((A.length + L.length : Nat) : Int)) (by omega) (by omega), show ((A.length + L.length : Nat) : Int) - (A.length : Int) = (L.length : Int) by omega, show ((A.length + L.length + R.length : Nat) : Int) - ((A.length + L.length : Nat) : Int) = (R.length : Int) by omega]
  exact rot_l0 x4 _ L R A B (Nat.le_refl _) h1 h2 HL.out
/-- What the comparator says of x and of y, which stands behind it. -/
def Qs (p : ByteArray → ByteArray → Option Int) (R : ByteArray → ByteArray → Prop) (x y : ByteArray) : Prop := ∃ v : Int, p y x = some v ∧ (v < 0 → R y x) ∧ (¬ v < 0 → R x y)
structure OrdS (R : ByteArray → ByteArray → Prop) : Prop where
  tr : ∀ a b c, R a b → R b c → R a c
  asy : ∀ a b, R a b → R b a → False
variable {p : ByteArray → ByteArray → Option Int} {R : ByteArray → ByteArray → Prop}
theorem Ev.bsearch {β : Type} {L : Nat → Nat → Nat → Option β} {r : β} (t lo hi : Nat)
    (hup : ∀ i j, lo ≤ i → i < j → j ≤ hi → (i + j) / 2 < t → Ev (fun k => L k ((i + j) / 2 + 1) j) r → Ev (fun k => L k i j) r)
    (hdn : ∀ i j, lo ≤ i → i < j → j ≤ hi → t ≤ (i + j) / 2 → Ev (fun k => L k i ((i + j) / 2)) r → Ev (fun k => L k i j) r)
    (hend : Ev (fun k => L k t t) r) : ∀ d i j, j - i ≤ d → lo ≤ i → i ≤ t → t ≤ j → j ≤ hi → Ev (fun k => L k i j) r := by
  intro d
  induction d with
  | zero =>
    intro i j hd h1 h2 h3 h4
    obtain rfl : i = t := by omega
    obtain rfl : j = i := by omega
    exact hend
  | succ d ih =>
    intro i j hd h1 h2 h3 h4
    by_cases hij : i < j
    · by_cases ht : (i + j) / 2 < t
      · exact hup i j h1 hij h4 ht (ih _ _ (by omega) (by omega) (by omega) h3 h4)
      · exact hdn i j h1 hij h4 (by omega) (ih _ _ (by omega) h1 h2 (by omega) (by omega))
    · obtain rfl : i = t := by omega
      obtain rfl : j = i := by omega
      exact hend
theorem rd_eq {A S C : List ByteArray} {h : Nat} (h1 : A.length ≤ h) (h2 : h < A.length + S.length) : rdOf ByteArray.empty (A ++ S ++ C) (h : Int) = S[h - A.length]'(by omega) := by
  unfold rdOf
  rw [Int.toNat_natCast, List.append_assoc, List.getD_eq_getElem?_getD, List.getElem?_append_right h1, List.getElem?_append_left (by omega), List.getElem?_eq_getElem (by omega)]
  rfl
theorem rd_in {A S C : List ByteArray} {h : Nat} (h1 : A.length ≤ h) (h2 : h < A.length + S.length) : rdOf ByteArray.empty (A ++ S ++ C) (h : Int) ∈ S := by
  rw [rd_eq h1 h2]
  exact List.getElem_mem _
theorem rd_pair {A S C : List ByteArray} (hS : S.Pairwise R) {i j : Nat} (h1 : A.length ≤ i) (h2 : i < j) (h3 : j < A.length + S.length) : R (rdOf ByteArray.empty (A ++ S ++ C) (i : Int)) (rdOf ByteArray.empty (A ++ S ++ C) (j : Int)) := by
  rw [rd_eq h1 (by omega), rd_eq (by omega) h3]
  exact List.pairwise_iff_getElem.1 hS _ _ _ _ (by omega)
/-! shifting one text -/
theorem sh_right : ∀ (S A C : List ByteArray) (x : ByteArray), A.length + S.length + C.length ≤ 1048576 → Ev (fun k => slices_symMergeCmpFunc_string.l1 p k (A ++ x :: S ++ C) ((A.length + S.length + 1 : Nat) : Int) (A.length : Int)) (A ++ S ++ x :: C) := by
  intro S
  induction S with
  | nil =>
    intro A C x hL
    refine Ev.succ ?_
    have e1 : wrap64 (((A.length + ([] : List ByteArray).length + 1 : Nat) : Int) - 1) = (A.length : Int) := by rw [List.length_nil, wrap_id (x := ((A.length + 0 + 1 : Nat) : Int) - 1) (by omega) (by omega)]; omega
    simp only [slices_symMergeCmpFunc_string.l1, e1, Int.lt_irrefl, if_false]
    simp only [List.append_nil, List.append_assoc, List.cons_append, List.nil_append]
    exact Ev.now _
  | cons s S ih =>
    intro A C x hL
    rw [List.length_cons] at hL
    have key := ih (A ++ [s]) C x (by rw [List.length_append, List.length_singleton]; omega)
    have l1 : (A ++ [s]).length = A.length + 1 := by rw [List.length_append, List.length_singleton]
    have q1 : A ++ x :: (s :: S) ++ C = A ++ x :: (s :: (S ++ C)) := by simp
    have q2 : A ++ x :: (s :: S) ++ C = (A ++ [x]) ++ s :: (S ++ C) := by simp
    have r1 : rdOf ByteArray.empty (A ++ x :: (s :: S) ++ C) (A.length : Int) = x := by rw [q1]; exact rdAt rfl
    have r2 : rdOf ByteArray.empty (A ++ x :: (s :: S) ++ C) ((A.length + 1 : Nat) : Int) = s := by rw [q2]; exact rdAt (by rw [List.length_append, List.length_singleton])
    have s1 : ((A ++ x :: (s :: S) ++ C).set A.length s).set (A.length + 1) x = (A ++ [s]) ++ x :: S ++ C := by
      rw [q1, setAt rfl, show A ++ s :: (s :: (S ++ C)) = (A ++ [s]) ++ s :: (S ++ C) by simp, setAt l1.symm]
      simp
    have ll : (A ++ x :: (s :: S) ++ C).length = A.length + S.length + C.length + 2 := by simp; omega
    have LL := Aside0.mk ll
    clear ll
    rw [l1] at key
    have e0 : A.length + 1 + S.length + 1 = A.length + (s :: S).length + 1 := by rw [List.length_cons]; omega
    rw [e0, show (A ++ [s]) ++ S ++ x :: C = A ++ (s :: S) ++ x :: C by simp] at key
    refine Ev.succ ?_
    generalize A.length = a at *
    have e1 : wrap64 (((a + (s :: S).length + 1 : Nat) : Int) - 1) = ((a + S.length + 1 : Nat) : Int) := by rw [List.length_cons, wrap_id (x := ((a + (S.length + 1) + 1 : Nat) : Int) - 1) (by omega) (by omega)]; omega
    simp only [slices_symMergeCmpFunc_string.l1, e1, show ((a : Int) < ((a + S.length + 1 : Nat) : Int)) = True from eq_true (by omega), if_true, wrap_succ (show a < 4611686018427387904 by omega), nat_nonneg, LL.out, show (((a + 1 : Nat) : Int) < ((a + S.length + C.length + 2 : Nat) : Int)) = True from eq_true (by omega), show ((a : Int) < ((a + S.length + C.length + 2 : Nat) : Int)) = True from eq_true (by omega), r1, r2, Int.toNat_natCast, s1]
    exact key
theorem sh_left : ∀ (n : Nat) (S A C : List ByteArray) (x : ByteArray), S.length = n → A.length + S.length + C.length ≤ 1048576 → Ev (fun k => slices_symMergeCmpFunc_string.l3 p k (A ++ S ++ x :: C) (A.length : Int) ((A.length + S.length : Nat) : Int)) (A ++ x :: S ++ C) := by
  intro n
  induction n with
  | zero =>
    intro S A C x hn hL
    obtain rfl := List.eq_nil_of_length_eq_zero hn
    refine Ev.succ ?_
    simp only [slices_symMergeCmpFunc_string.l3, List.length_nil, Nat.add_zero, show ((A.length : Int) > (A.length : Int)) = False from eq_false (by omega), if_false]
    simp only [List.append_nil, List.append_assoc, List.cons_append, List.nil_append]
    exact Ev.now _
  | succ n ih =>
    intro S A C x hn hL
    obtain ⟨S', s, rfl⟩ : ∃ S' s, S = S' ++ [s] := ⟨S.dropLast, S.getLast (by intro h; rw [h] at hn; simp at hn), (List.dropLast_concat_getLast _).symm⟩
    rw [List.length_append, List.length_singleton] at hn hL
    have key := ih S' A (s :: C) x (by omega) (by rw [List.length_cons]; omega)
    have q1 : A ++ (S' ++ [s]) ++ x :: C = (A ++ S') ++ s :: (x :: C) := by simp
    have q2 : A ++ (S' ++ [s]) ++ x :: C = (A ++ S' ++ [s]) ++ x :: C := by simp
    have lA : (A ++ S').length = A.length + S'.length := List.length_append
    have lB : (A ++ S' ++ [s]).length = A.length + S'.length + 1 := by simp; omega
    have r1 : rdOf ByteArray.empty (A ++ (S' ++ [s]) ++ x :: C) ((A.length + S'.length : Nat) : Int) = s := by rw [q1]; exact rdAt (by rw [lA])
    have r2 : rdOf ByteArray.empty (A ++ (S' ++ [s]) ++ x :: C) ((A.length + S'.length + 1 : Nat) : Int) = x := by rw [q2]; exact rdAt (by rw [lB])
    have s1 : ((A ++ (S' ++ [s]) ++ x :: C).set (A.length + S'.length + 1) s).set (A.length + S'.length) x = A ++ S' ++ x :: (s :: C) := by
      rw [q2, setAt lB.symm, show (A ++ S' ++ [s]) ++ s :: C = (A ++ S') ++ s :: (s :: C) by simp, setAt lA.symm]
    have ll : (A ++ (S' ++ [s]) ++ x :: C).length = A.length + S'.length + C.length + 2 := by simp; omega
    have LL := Aside0.mk ll
    have LA := Aside0.mk lA
    clear ll lA lB
    rw [show A ++ x :: S' ++ (s :: C) = A ++ x :: (S' ++ [s]) ++ C by simp] at key
    refine Ev.succ ?_
    rw [show A.length + (S' ++ [s]).length = A.length + S'.length + 1 by rw [List.length_append, List.length_singleton]; omega]
    generalize A.length = a at *
    generalize S'.length = b at *
    generalize C.length = c at *
    have e1 : wrap64 (((a + b + 1 : Nat) : Int) - 1) = ((a + b : Nat) : Int) := by rw [wrap_id (x := ((a + b + 1 : Nat) : Int) - 1) (by omega) (by omega)]; omega
    simp only [slices_symMergeCmpFunc_string.l3, e1, show (((a + b + 1 : Nat) : Int) > (a : Int)) = True from eq_true (by omega), if_true, nat_nonneg, LL.out, show (((a + b + 1 : Nat) : Int) < ((a + b + c + 2 : Nat) : Int)) = True from eq_true (by omega), show (((a + b : Nat) : Int) < ((a + b + c + 2 : Nat) : Int)) = True from eq_true (by omega), r1, r2, Int.toNat_natCast, s1]
    exact key
/-! one text and an ordered row -/
theorem split_up (O : OrdS R) (x : ByteArray) : ∀ Y : List ByteArray, Y.Pairwise R → (∀ y, y ∈ Y → Qs p R x y) → ∃ Y1 Y2, Y = Y1 ++ Y2 ∧ (∀ y, y ∈ Y1 → ∃ v, p y x = some v ∧ v < 0 ∧ R y x) ∧ (∀ y, y ∈ Y2 → ∃ v, p y x = some v ∧ ¬ v < 0 ∧ R x y)
  | [], _, _ => ⟨[], [], rfl, by simp, by simp⟩
  | y :: Y, hp, hq => by
    obtain ⟨v, h1, h2, h3⟩ := hq y (List.mem_cons_self ..)
    obtain ⟨hy, hp'⟩ := List.pairwise_cons.1 hp
    by_cases hv : v < 0
    · obtain ⟨Y1, Y2, e, g1, g2⟩ := split_up O x Y hp' (fun z hz => hq z (List.mem_cons_of_mem _ hz))
      refine ⟨y :: Y1, Y2, by rw [e]; rfl, fun z hz => ?_, g2⟩
      rcases List.mem_cons.1 hz with rfl | hz
      · exact ⟨v, h1, hv, h2 hv⟩
      · exact g1 z hz
    · refine ⟨[], y :: Y, rfl, by simp, fun z hz => ?_⟩
      rcases List.mem_cons.1 hz with rfl | hz'
      · exact ⟨v, h1, hv, h3 hv⟩
      · obtain ⟨u, k1, k2, k3⟩ := hq z hz
        have hxz := O.tr _ _ _ (h3 hv) (hy z hz')
        have hu : ¬ u < 0 := fun h => O.asy _ _ hxz (k2 h)
        exact ⟨u, k1, hu, hxz⟩
theorem split_dn (O : OrdS R) (y : ByteArray) : ∀ X : List ByteArray, X.Pairwise R → (∀ x, x ∈ X → Qs p R x y) → ∃ X1 X2, X = X1 ++ X2 ∧ (∀ x, x ∈ X1 → ∃ v, p y x = some v ∧ ¬ v < 0 ∧ R x y) ∧ (∀ x, x ∈ X2 → ∃ v, p y x = some v ∧ v < 0 ∧ R y x)
  | [], _, _ => ⟨[], [], rfl, by simp, by simp⟩
  | x :: X, hp, hq => by
    obtain ⟨v, h1, h2, h3⟩ := hq x (List.mem_cons_self ..)
    obtain ⟨hy, hp'⟩ := List.pairwise_cons.1 hp
    by_cases hv : v < 0
    · refine ⟨[], x :: X, rfl, by simp, fun z hz => ?_⟩
      rcases List.mem_cons.1 hz with rfl | hz'
      · exact ⟨v, h1, hv, h2 hv⟩
      · obtain ⟨u, k1, k2, k3⟩ := hq z hz
        have hyz := O.tr _ _ _ (h2 hv) (hy z hz')
        by_cases hu : u < 0
        · exact ⟨u, k1, hu, hyz⟩
        · exact (O.asy _ _ hyz (k3 hu)).elim
    · obtain ⟨X1, X2, e, g1, g2⟩ := split_dn O y X hp' (fun z hz => hq z (List.mem_cons_of_mem _ hz))
      refine ⟨x :: X1, X2, by rw [e]; rfl, fun z hz => ?_, g2⟩
      rcases List.mem_cons.1 hz with rfl | hz
      · exact ⟨v, h1, hv, h3 hv⟩
      · exact g1 z hz
theorem armA (O : OrdS R) (x : ByteArray) (Y A B : List ByteArray) (hY : Y.Pairwise R) (hq : ∀ y, y ∈ Y → Qs p R x y) (hL : A.length + Y.length + B.length + 1 ≤ 1048576) :
    ∃ S, Ev (fun k => slices_symMergeCmpFunc_string.l0 p k (A ++ x :: Y ++ B) (A.length : Int) ((A.length + 1 : Nat) : Int) ((A.length + 1 + Y.length : Nat) : Int)) (A ++ S ++ B) ∧ S.Perm (x :: Y) ∧ S.Pairwise R := by
  obtain ⟨Y1, Y2, rfl, g1, g2⟩ := split_up O x Y hY hq
  rw [List.length_append] at hL
  obtain ⟨p1, p2, p3⟩ := List.pairwise_append.1 hY
  refine ⟨Y1 ++ x :: Y2, ?_, List.perm_middle, List.pairwise_append.2 ⟨p1, List.pairwise_cons.2 ⟨fun z hz => (g2 z hz).choose_spec.2.2, p2⟩, fun a ha b hb => ?_⟩⟩
  · have hx : rdOf ByteArray.empty (A ++ x :: (Y1 ++ Y2) ++ B) (A.length : Int) = x := by rw [show A ++ x :: (Y1 ++ Y2) ++ B = A ++ x :: (Y1 ++ Y2 ++ B) by simp]; exact rdAt rfl
    have m1 : ∀ h : Nat, A.length + 1 ≤ h → h < A.length + 1 + Y1.length → ∃ v, p (rdOf ByteArray.empty (A ++ x :: (Y1 ++ Y2) ++ B) (h : Int)) x = some v ∧ v < 0 := by
      intro h h1 h2
      have hm := rd_in (A := A ++ [x]) (S := Y1) (C := Y2 ++ B) (h := h) (by rw [List.length_append, List.length_singleton]; omega) (by rw [List.length_append, List.length_singleton]; omega)
      rw [show A ++ [x] ++ Y1 ++ (Y2 ++ B) = A ++ x :: (Y1 ++ Y2) ++ B by simp] at hm
      obtain ⟨v, v1, v2, _⟩ := g1 _ hm
      exact ⟨v, v1, v2⟩
    have m2 : ∀ h : Nat, A.length + 1 + Y1.length ≤ h → h < A.length + 1 + (Y1.length + Y2.length) → ∃ v, p (rdOf ByteArray.empty (A ++ x :: (Y1 ++ Y2) ++ B) (h : Int)) x = some v ∧ ¬ v < 0 := by
      intro h h1 h2
      have lA : (A ++ [x] ++ Y1).length = A.length + 1 + Y1.length := by simp; omega
      have hm := rd_in (A := A ++ [x] ++ Y1) (S := Y2) (C := B) (h := h) (by rw [lA]; exact h1) (by rw [lA]; clear lA; omega)
      rw [show A ++ [x] ++ Y1 ++ Y2 ++ B = A ++ x :: (Y1 ++ Y2) ++ B by simp] at hm
      obtain ⟨v, v1, v2, _⟩ := g2 _ hm
      exact ⟨v, v1, v2⟩
    have hend := sh_right (p := p) Y1 A (Y2 ++ B) x (by rw [List.length_append]; omega)
    rw [show A ++ x :: Y1 ++ (Y2 ++ B) = A ++ x :: (Y1 ++ Y2) ++ B by simp, show A ++ Y1 ++ x :: (Y2 ++ B) = A ++ (Y1 ++ x :: Y2) ++ B by simp] at hend
    have ll : (A ++ x :: (Y1 ++ Y2) ++ B).length = A.length + Y1.length + Y2.length + B.length + 1 := by simp; omega
    have LL := Aside0.mk ll
    clear ll
    rw [List.length_append]
    generalize A ++ x :: (Y1 ++ Y2) ++ B = D at *
    generalize A ++ (Y1 ++ x :: Y2) ++ B = E at *
    generalize A.length = a at *
    generalize Y1.length = y1 at *
    generalize Y2.length = y2 at *
    generalize B.length = b at *
    have step : ∀ i j v : Nat, True := fun _ _ _ => trivial
    refine Ev.bsearch (L := fun k i j => slices_symMergeCmpFunc_string.l0 p k D (a : Int) (i : Int) (j : Int)) (a + 1 + y1) (a + 1) (a + 1 + (y1 + y2)) ?_ ?_ ?_ _ (a + 1) (a + 1 + (y1 + y2)) (Nat.le_refl _) (Nat.le_refl _) (by omega) (by omega) (Nat.le_refl _)
    · intro i j h1 h2 h3 h4 h
      obtain ⟨v, v1, v2⟩ := m1 ((i + j) / 2) (by omega) h4
      refine Ev.succ ?_
      simp only [slices_symMergeCmpFunc_string.l0, show ((i : Int) < (j : Int)) = True from eq_true (by omega), if_true, mid_eq i j (by omega), nat_nonneg, LL.out, show ((((i + j) / 2 : Nat) : Int) < ((a + y1 + y2 + b + 1 : Nat) : Int)) = True from eq_true (by omega), show ((a : Int) < ((a + y1 + y2 + b + 1 : Nat) : Int)) = True from eq_true (by omega), hx, v1, Option.bind_some, eq_true v2, wrap_succ (show (i + j) / 2 < 4611686018427387904 by omega)]
      exact h
    · intro i j h1 h2 h3 h4 h
      obtain ⟨v, v1, v2⟩ := m2 ((i + j) / 2) h4 (by omega)
      refine Ev.succ ?_
      simp only [slices_symMergeCmpFunc_string.l0, show ((i : Int) < (j : Int)) = True from eq_true (by omega), if_true, mid_eq i j (by omega), nat_nonneg, LL.out, show ((((i + j) / 2 : Nat) : Int) < ((a + y1 + y2 + b + 1 : Nat) : Int)) = True from eq_true (by omega), show ((a : Int) < ((a + y1 + y2 + b + 1 : Nat) : Int)) = True from eq_true (by omega), hx, v1, Option.bind_some, eq_false v2, if_false]
      exact h
    · refine Ev.succ ?_
      simp only [slices_symMergeCmpFunc_string.l0, Int.lt_irrefl, if_false]
      rw [show a + 1 + y1 = a + y1 + 1 by omega]
      exact hend
  · rcases List.mem_cons.1 hb with rfl | hb
    · exact (g1 a ha).choose_spec.2.2
    · exact p3 a ha b hb
theorem armB (O : OrdS R) (y : ByteArray) (X A B : List ByteArray) (hX : X.Pairwise R) (hq : ∀ x, x ∈ X → Qs p R x y) (hL : A.length + X.length + B.length + 1 ≤ 1048576) :
    ∃ S, Ev (fun k => slices_symMergeCmpFunc_string.l2 p k (A ++ X ++ y :: B) ((A.length + X.length : Nat) : Int) (A.length : Int) ((A.length + X.length : Nat) : Int)) (A ++ S ++ B) ∧ S.Perm (X ++ [y]) ∧ S.Pairwise R := by
  obtain ⟨X1, X2, rfl, g1, g2⟩ := split_dn O y X hX hq
  rw [List.length_append] at hL
  obtain ⟨p1, p2, p3⟩ := List.pairwise_append.1 hX
  refine ⟨X1 ++ y :: X2, ?_, ?_, List.pairwise_append.2 ⟨p1, List.pairwise_cons.2 ⟨fun z hz => (g2 z hz).choose_spec.2.2, p2⟩, fun a ha b hb => ?_⟩⟩
  · have hy : rdOf ByteArray.empty (A ++ (X1 ++ X2) ++ y :: B) ((A.length + (X1.length + X2.length) : Nat) : Int) = y := rdAt (by simp)
    have m1 : ∀ h : Nat, A.length ≤ h → h < A.length + X1.length → ∃ v, p y (rdOf ByteArray.empty (A ++ (X1 ++ X2) ++ y :: B) (h : Int)) = some v ∧ ¬ v < 0 := by
      intro h h1 h2
      have hm := rd_in (A := A) (S := X1) (C := X2 ++ y :: B) (h := h) h1 h2
      rw [show A ++ X1 ++ (X2 ++ y :: B) = A ++ (X1 ++ X2) ++ y :: B by simp] at hm
      obtain ⟨v, v1, v2, _⟩ := g1 _ hm
      exact ⟨v, v1, v2⟩
    have m2 : ∀ h : Nat, A.length + X1.length ≤ h → h < A.length + (X1.length + X2.length) → ∃ v, p y (rdOf ByteArray.empty (A ++ (X1 ++ X2) ++ y :: B) (h : Int)) = some v ∧ v < 0 := by
      intro h h1 h2
      have lA : (A ++ X1).length = A.length + X1.length := List.length_append
      have hm := rd_in (A := A ++ X1) (S := X2) (C := y :: B) (h := h) (by rw [lA]; exact h1) (by rw [lA]; clear lA; omega)
      rw [show A ++ X1 ++ X2 ++ y :: B = A ++ (X1 ++ X2) ++ y :: B by simp] at hm
      obtain ⟨v, v1, v2, _⟩ := g2 _ hm
      exact ⟨v, v1, v2⟩
    have hend := sh_left (p := p) X2.length X2 (A ++ X1) B y rfl (by rw [List.length_append]; omega)
    rw [show A ++ X1 ++ X2 ++ y :: B = A ++ (X1 ++ X2) ++ y :: B by simp, show A ++ X1 ++ y :: X2 ++ B = A ++ (X1 ++ y :: X2) ++ B by simp, List.length_append, Nat.add_assoc] at hend
    have ll : (A ++ (X1 ++ X2) ++ y :: B).length = A.length + X1.length + X2.length + B.length + 1 := by simp; omega
    have LL := Aside0.mk ll
    clear ll
    rw [List.length_append]
    generalize A ++ (X1 ++ X2) ++ y :: B = D at *
    generalize A ++ (X1 ++ y :: X2) ++ B = E at *
    generalize A.length = a at *
    generalize X1.length = y1 at *
    generalize X2.length = y2 at *
    generalize B.length = b at *
    refine Ev.bsearch (L := fun k i j => slices_symMergeCmpFunc_string.l2 p k D ((a + (y1 + y2) : Nat) : Int) (i : Int) (j : Int)) (a + y1) a (a + (y1 + y2)) ?_ ?_ ?_ _ a (a + (y1 + y2)) (Nat.le_refl _) (Nat.le_refl _) (by omega) (by omega) (Nat.le_refl _)
    · intro i j h1 h2 h3 h4 h
      obtain ⟨v, v1, v2⟩ := m1 ((i + j) / 2) (by omega) h4
      refine Ev.succ ?_
      simp only [slices_symMergeCmpFunc_string.l2, show ((i : Int) < (j : Int)) = True from eq_true (by omega), if_true, mid_eq i j (by omega), nat_nonneg, LL.out, show ((((i + j) / 2 : Nat) : Int) < ((a + y1 + y2 + b + 1 : Nat) : Int)) = True from eq_true (by omega), show (((a + (y1 + y2) : Nat) : Int) < ((a + y1 + y2 + b + 1 : Nat) : Int)) = True from eq_true (by omega), hy, v1, Option.bind_some, eq_false v2, if_false, wrap_succ (show (i + j) / 2 < 4611686018427387904 by omega)]
      exact h
    · intro i j h1 h2 h3 h4 h
      obtain ⟨v, v1, v2⟩ := m2 ((i + j) / 2) h4 (by omega)
      refine Ev.succ ?_
      simp only [slices_symMergeCmpFunc_string.l2, show ((i : Int) < (j : Int)) = True from eq_true (by omega), if_true, mid_eq i j (by omega), nat_nonneg, LL.out, show ((((i + j) / 2 : Nat) : Int) < ((a + y1 + y2 + b + 1 : Nat) : Int)) = True from eq_true (by omega), show (((a + (y1 + y2) : Nat) : Int) < ((a + y1 + y2 + b + 1 : Nat) : Int)) = True from eq_true (by omega), hy, v1, Option.bind_some, eq_true v2]
      exact h
    · refine Ev.succ ?_
      simp only [slices_symMergeCmpFunc_string.l2, Int.lt_irrefl, if_false]
      exact hend
  · refine List.perm_middle.trans ?_
    exact (List.perm_append_singleton _ _).symm
  · rcases List.mem_cons.1 hb with rfl | hb
    · exact (g1 a ha).choose_spec.2.2
    · exact p3 a ha b hb
theorem merge_two {α : Type} {R : α → α → Prop} {L1 L2 Q1 Q2 S1 S2 : List α} (hL : (L1 ++ L2).Pairwise R) (hQ : (Q1 ++ Q2).Pairwise R) (h12 : ∀ x, x ∈ L1 → ∀ y, y ∈ Q2 → R x y) (h21 : ∀ y, y ∈ Q1 → ∀ x, x ∈ L2 → R y x)
    (p1 : S1.Perm (L1 ++ Q1)) (s1 : S1.Pairwise R) (p2 : S2.Perm (L2 ++ Q2)) (s2 : S2.Pairwise R) : (S1 ++ S2).Perm (L1 ++ L2 ++ (Q1 ++ Q2)) ∧ (S1 ++ S2).Pairwise R := by
  obtain ⟨_, _, hl⟩ := List.pairwise_append.1 hL
  obtain ⟨_, _, hq⟩ := List.pairwise_append.1 hQ
  refine ⟨(p1.append p2).trans ?_, List.pairwise_append.2 ⟨s1, s2, fun x hx y hy => ?_⟩⟩
  · rw [List.append_assoc, List.append_assoc]
    refine List.Perm.append_left _ ?_
    rw [← List.append_assoc, ← List.append_assoc]
    exact List.Perm.append_right _ List.perm_append_comm
  · have hx' := p1.mem_iff.1 hx
    have hy' := p2.mem_iff.1 hy
    rw [List.mem_append] at hx' hy'
    rcases hx' with hx' | hx' <;> rcases hy' with hy' | hy'
    · exact hl x hx' y hy'
    · exact h12 x hx' y hy'
    · exact h21 x hx' y hy'
    · exact hq x hx' y hy'
theorem bound_ex (f : Nat → Prop) : ∀ (d s r : Nat), s + d = r → (∀ c c', s ≤ c → c < c' → c' < r → f c' → f c) → ∃ t, s ≤ t ∧ t ≤ r ∧ (∀ c, s ≤ c → c < t → f c) ∧ (∀ c, t ≤ c → c < r → ¬ f c)
  | 0, s, r, h, _ => ⟨s, Nat.le_refl _, by omega, fun c h1 h2 => by omega, fun c h1 h2 => by omega⟩
  | d + 1, s, r, h, hm => by
    by_cases hf : f s
    · obtain ⟨t, h1, h2, h3, h4⟩ := bound_ex f d (s + 1) r (by omega) (fun c c' k1 k2 k3 => hm c c' (by omega) k2 k3)
      refine ⟨t, by omega, h2, fun c k1 k2 => ?_, h4⟩
      by_cases e : c = s
      · rw [e]; exact hf
      · exact h3 c (by omega) k2
    · refine ⟨s, Nat.le_refl _, by omega, fun c h1 h2 => by omega, fun c h1 h2 h3 => ?_⟩
      by_cases e : c = s
      · rw [e] at h3; exact hf h3
      · exact hf (hm s c (Nat.le_refl _) (by omega) h2 h3)
theorem mem_rd {A S C : List ByteArray} {x : ByteArray} (h : x ∈ S) : ∃ i : Nat, A.length ≤ i ∧ i < A.length + S.length ∧ rdOf ByteArray.empty (A ++ S ++ C) (i : Int) = x := by
  obtain ⟨j, hj, rfl⟩ := List.mem_iff_getElem.1 h
  refine ⟨A.length + j, by omega, by omega, ?_⟩
  rw [rd_eq (by omega) (by omega)]
  congr 1
  omega
/-- That shorter rows are merged. -/
def MergesTo (p : ByteArray → ByteArray → Option Int) (R : ByteArray → ByteArray → Prop) (x4 : Int) (s : Nat) : Prop := ∀ (L Q A B : List ByteArray), L.length + Q.length ≤ s → 0 < L.length → 0 < Q.length → L.Pairwise R → Q.Pairwise R → (∀ x, x ∈ L → ∀ y, y ∈ Q → Qs p R x y) → A.length + L.length + Q.length + B.length ≤ 1048576 →
   ∃ S, Ev (fun k => slices_symMergeCmpFunc_string.f p k (A ++ L ++ Q ++ B) (A.length : Int) ((A.length + L.length : Nat) : Int) ((A.length + L.length + Q.length : Nat) : Int) x4) (A ++ S ++ B) ∧ S.Perm (L ++ Q) ∧ S.Pairwise R
theorem tail_ev (x4 : Int) (s : Nat) (ih : MergesTo p R x4 s) (L1 Q1 L2 Q2 A B : List ByteArray) (h1 : L1.length + Q1.length ≤ s) (h2 : L2.length + Q2.length ≤ s) (s1 : L1.Pairwise R) (s2 : Q1.Pairwise R) (s3 : L2.Pairwise R) (s4 : Q2.Pairwise R) (c1 : ∀ x, x ∈ L1 → ∀ y, y ∈ Q1 → Qs p R x y) (c2 : ∀ x, x ∈ L2 → ∀ y, y ∈ Q2 → Qs p R x y)
    (hB : A.length + L1.length + Q1.length + L2.length + Q2.length + B.length ≤ 1048576) (a t mid e b : Nat) (ha : a = A.length) (ht : t = a + L1.length) (hmid : mid = t + Q1.length) (he : e = mid + L2.length) (hb : b = e + Q2.length) :
    ∃ S1 S2, Ev (fun k => slices_symMergeCmpFunc_string.j7 p k (A ++ L1 ++ Q1 ++ L2 ++ Q2 ++ B) (a : Int) (b : Int) x4 (mid : Int) (t : Int) (e : Int)) (A ++ S1 ++ S2 ++ B) ∧ S1.Perm (L1 ++ Q1) ∧ S1.Pairwise R ∧ S2.Perm (L2 ++ Q2) ∧ S2.Pairwise R := by
  -- the first half
  have P1 : ∃ S1 : List ByteArray, S1.Perm (L1 ++ Q1) ∧ S1.Pairwise R ∧ ((a < t ∧ t < mid ∧ Ev (fun k => slices_symMergeCmpFunc_string.f p k (A ++ L1 ++ Q1 ++ L2 ++ Q2 ++ B) (a : Int) (t : Int) (mid : Int) x4) (A ++ S1 ++ L2 ++ Q2 ++ B)) ∨ (¬ (a < t ∧ t < mid) ∧ S1 = L1 ++ Q1)) := by
    by_cases hf : a < t ∧ t < mid
    · obtain ⟨S1, g1, g2, g3⟩ := ih L1 Q1 A (L2 ++ Q2 ++ B) h1 (by omega) (by omega) s1 s2 c1 (by simp only [List.length_append]; omega)
      refine ⟨S1, g2, g3, .inl ⟨hf.1, hf.2, ?_⟩⟩
      rw [show A ++ L1 ++ Q1 ++ (L2 ++ Q2 ++ B) = A ++ L1 ++ Q1 ++ L2 ++ Q2 ++ B by simp, show A ++ S1 ++ (L2 ++ Q2 ++ B) = A ++ S1 ++ L2 ++ Q2 ++ B by simp] at g1
      rw [ha, hmid, ht, ha]
      exact g1
    · refine ⟨L1 ++ Q1, List.Perm.refl _, ?_, .inr ⟨hf, rfl⟩⟩
      by_cases hl : L1.length = 0
      · rw [List.eq_nil_of_length_eq_zero hl]; exact s2
      · have hq : Q1.length = 0 := by omega
        rw [List.eq_nil_of_length_eq_zero hq, List.append_nil]; exact s1
  obtain ⟨S1, e1, e2, e3⟩ := P1
  have hl1 : S1.length = L1.length + Q1.length := by rw [e1.length_eq, List.length_append]
  -- the second half
  have P2 : ∃ S2 : List ByteArray, S2.Perm (L2 ++ Q2) ∧ S2.Pairwise R ∧ ((mid < e ∧ e < b ∧ Ev (fun k => slices_symMergeCmpFunc_string.f p k (A ++ S1 ++ L2 ++ Q2 ++ B) (mid : Int) (e : Int) (b : Int) x4) (A ++ S1 ++ S2 ++ B)) ∨ (¬ (mid < e ∧ e < b) ∧ S2 = L2 ++ Q2)) := by
    by_cases hf : mid < e ∧ e < b
    · have hA : (A ++ S1).length = mid := by rw [List.length_append]; omega
      obtain ⟨S2, g1, g2, g3⟩ := ih L2 Q2 (A ++ S1) B h2 (by omega) (by omega) s3 s4 c2 (by rw [hA]; omega)
      rw [hA, ← he, ← hb] at g1
      exact ⟨S2, g2, g3, .inl ⟨hf.1, hf.2, g1⟩⟩
    · refine ⟨L2 ++ Q2, List.Perm.refl _, ?_, .inr ⟨hf, rfl⟩⟩
      by_cases hl : L2.length = 0
      · rw [List.eq_nil_of_length_eq_zero hl]; exact s4
      · have hq : Q2.length = 0 := by omega
        rw [List.eq_nil_of_length_eq_zero hq, List.append_nil]; exact s3
  obtain ⟨S2, f1, f2, f3⟩ := P2
  refine ⟨S1, S2, ?_, e1, e2, f1, f2⟩
  clear s1 s2 s3 s4 c1 c2 ih e1 e2 f1 f2
  -- what comes behind the first half
  have T : Ev (fun k => if (mid : Int) < (e : Int) then (if (e : Int) < (b : Int) then ((slices_symMergeCmpFunc_string.f p k (A ++ S1 ++ L2 ++ Q2 ++ B) (mid : Int) (e : Int) (b : Int) x4).bind fun t120 => some t120) else some (A ++ S1 ++ L2 ++ Q2 ++ B)) else some (A ++ S1 ++ L2 ++ Q2 ++ B)) (A ++ S1 ++ S2 ++ B) := by
    rcases f3 with ⟨k1, k2, k3⟩ | ⟨k1, rfl⟩
    · simp only [show ((mid : Int) < (e : Int)) = True from eq_true (by omega), show ((e : Int) < (b : Int)) = True from eq_true (by omega), if_true]
      exact Ev.bind k3 (Ev.now _)
    · have ee : A ++ S1 ++ (L2 ++ Q2) ++ B = A ++ S1 ++ L2 ++ Q2 ++ B := by simp
      rw [ee]
      by_cases h : mid < e
      · simp only [show ((mid : Int) < (e : Int)) = True from eq_true (by omega), show ((e : Int) < (b : Int)) = False from eq_false (by omega), if_true, if_false]
        exact Ev.now _
      · simp only [show ((mid : Int) < (e : Int)) = False from eq_false (by omega), if_false]
        exact Ev.now _
  have J : ∀ fl : Bool, fl = decide (a < t ∧ t < mid) → Ev (fun k => slices_symMergeCmpFunc_string.j8 p k (A ++ L1 ++ Q1 ++ L2 ++ Q2 ++ B) (a : Int) (b : Int) x4 (mid : Int) (t : Int) (e : Int) fl) (A ++ S1 ++ S2 ++ B) := by
    intro fl hfl
    refine Ev.succ ?_
    rcases e3 with ⟨k1, k2, k3⟩ | ⟨k1, rfl⟩
    · rw [hfl, decide_eq_true ⟨k1, k2⟩]
      simp only [slices_symMergeCmpFunc_string.j8, if_true]
      exact Ev.bind k3 T
    · rw [hfl, decide_eq_false k1]
      simp only [slices_symMergeCmpFunc_string.j8, Bool.false_eq_true, if_false]
      rw [show A ++ L1 ++ Q1 ++ L2 ++ Q2 ++ B = A ++ (L1 ++ Q1) ++ L2 ++ Q2 ++ B by simp]
      exact T
  refine Ev.succ ?_
  by_cases h : a < t
  · simp only [slices_symMergeCmpFunc_string.j7, show ((a : Int) < (t : Int)) = True from eq_true (by omega), if_true]
    refine J _ ?_
    rw [decide_eq_decide]
    omega
  · simp only [slices_symMergeCmpFunc_string.j7, show ((a : Int) < (t : Int)) = False from eq_false (by omega), if_false]
    refine J _ ?_
    rw [eq_comm]
    exact decide_eq_false (by omega)
/-- The rotation between the halves. -/
theorem rotd_ev (x4 : Int) (L1 L2 Q1 Q2 A B : List ByteArray) (r : List ByteArray) (hB : A.length + L1.length + L2.length + Q1.length + Q2.length + B.length ≤ 1048576) (a t m e b mid : Nat) (ha : a = A.length) (ht : t = a + L1.length) (hm : m = t + L2.length) (he : e = m + Q1.length)
    (hr : Ev (fun k => slices_symMergeCmpFunc_string.j7 p k (A ++ L1 ++ Q1 ++ L2 ++ Q2 ++ B) (a : Int) (b : Int) x4 (mid : Int) (t : Int) (e : Int)) r) (fl : Bool) (hfl : fl = decide (t < m ∧ m < e)) :
    Ev (fun k => slices_symMergeCmpFunc_string.j6 p k (A ++ (L1 ++ L2) ++ (Q1 ++ Q2) ++ B) (a : Int) (m : Int) (b : Int) x4 (mid : Int) (t : Int) (e : Int) fl) r := by
  refine Ev.succ ?_
  by_cases hf : t < m ∧ m < e
  · rw [hfl, decide_eq_true hf]
    simp only [slices_symMergeCmpFunc_string.j6, if_true]
    have h := rot_ev x4 L2 Q1 (A ++ L1) (Q2 ++ B) (by omega) (by omega) (by simp only [List.length_append]; omega)
    have hA : (A ++ L1).length = t := by rw [List.length_append]; omega
    rw [hA, ← hm, ← he, show A ++ L1 ++ L2 ++ Q1 ++ (Q2 ++ B) = A ++ (L1 ++ L2) ++ (Q1 ++ Q2) ++ B by simp, show A ++ L1 ++ Q1 ++ L2 ++ (Q2 ++ B) = A ++ L1 ++ Q1 ++ L2 ++ Q2 ++ B by simp] at h
    exact Ev.bind h hr
  · rw [hfl, decide_eq_false hf]
    simp only [slices_symMergeCmpFunc_string.j6, Bool.false_eq_true, if_false]
    have ee : A ++ (L1 ++ L2) ++ (Q1 ++ Q2) ++ B = A ++ L1 ++ Q1 ++ L2 ++ Q2 ++ B := by
      by_cases h0 : L2.length = 0
      · rw [List.eq_nil_of_length_eq_zero h0]; simp
      · have h1 : Q1.length = 0 := by omega
        rw [List.eq_nil_of_length_eq_zero h1]; simp
    rw [ee]
    exact hr
theorem sym_nums {a l q mid n m b : Nat} (hl : 2 ≤ l) (hq : 2 ≤ q) (hm : m = a + l) (hb : b = m + q) (hmid : mid = (a + b) / 2) (hn : n = mid + m) (s0 r0 : Nat) (hs : (mid < m ∧ s0 + b = n ∧ r0 = mid) ∨ (m ≤ mid ∧ s0 = a ∧ r0 = m)) :
    a ≤ s0 ∧ s0 ≤ r0 ∧ r0 ≤ m ∧ a < mid ∧ mid < b ∧ b ≤ n ∨ a ≤ s0 ∧ s0 ≤ r0 ∧ r0 ≤ m ∧ a < mid ∧ mid < b := by omega
theorem sym_idx {a l q mid n m b : Nat} (hl : 2 ≤ l) (hq : 2 ≤ q) (hm : m = a + l) (hb : b = m + q) (hmid : mid = (a + b) / 2) (hn : n = mid + m) (s0 r0 : Nat) (hs : (mid < m ∧ s0 + b = n ∧ r0 = mid) ∨ (m ≤ mid ∧ s0 = a ∧ r0 = m)) (c : Nat) (h1 : s0 ≤ c) (h2 : c < r0) :
    a ≤ c ∧ c < m ∧ m ≤ n - 1 - c ∧ n - 1 - c < b ∧ c + 1 ≤ n := by omega
theorem sym_end {a l q mid n m b : Nat} (hl : 2 ≤ l) (hq : 2 ≤ q) (hm : m = a + l) (hb : b = m + q) (hmid : mid = (a + b) / 2) (hn : n = mid + m) (s0 r0 : Nat) (hs : (mid < m ∧ s0 + b = n ∧ r0 = mid) ∨ (m ≤ mid ∧ s0 = a ∧ r0 = m)) (t : Nat) (h1 : s0 ≤ t) (h2 : t ≤ r0) :
    a ≤ t ∧ t ≤ m ∧ m ≤ n - t ∧ n - t ≤ b ∧ t ≤ n ∧ (a < t → n - t < b → s0 < t) ∧ (m < n - t → t < m → t < r0) ∧ (t - a) + (n - t - m) = mid - a ∧ (m - t) + (b - (n - t)) + mid = b ∧ a ≤ mid := by omega
set_option maxHeartbeats 1000000 in
theorem armC (O : OrdS R) (x4 : Int) (s : Nat) (ih : MergesTo p R x4 s) (L Q A B : List ByteArray) (hs1 : L.length + Q.length ≤ s + 1) (hl2 : 2 ≤ L.length) (hq2 : 2 ≤ Q.length) (sL : L.Pairwise R) (sQ : Q.Pairwise R) (hc : ∀ x, x ∈ L → ∀ y, y ∈ Q → Qs p R x y) (hB : A.length + L.length + Q.length + B.length ≤ 1048576)
    (a m b mid n s0 r0 : Nat) (ha : a = A.length) (hm : m = a + L.length) (hb : b = m + Q.length) (hmid : mid = (a + b) / 2) (hn : n = mid + m) (hs : (mid < m ∧ s0 + b = n ∧ r0 = mid) ∨ (m ≤ mid ∧ s0 = a ∧ r0 = m)) :
    ∃ S, Ev (fun k => slices_symMergeCmpFunc_string.j4 p k (A ++ L ++ Q ++ B) (a : Int) (m : Int) (b : Int) x4 (mid : Int) (n : Int) (s0 : Int) (r0 : Int)) (A ++ S ++ B) ∧ S.Perm (L ++ Q) ∧ S.Pairwise R := by
  obtain ⟨D, hD⟩ : ∃ D, D = A ++ L ++ Q ++ B := ⟨_, rfl⟩
  have hD1 : D = A ++ L ++ (Q ++ B) := by rw [hD]; simp
  have hAL : (A ++ L).length = m := by rw [List.length_append]; omega
  have HAL := Aside0.mk hAL
  have HDL : Aside0 (D.length = b + B.length) := ⟨by rw [hD]; simp only [List.length_append]; omega⟩
  clear hAL
  -- the readings
  have inL : ∀ c : Nat, a ≤ c → c < m → rdOf ByteArray.empty D (c : Int) ∈ L := fun c h1 h2 => by rw [hD1]; exact rd_in (by omega) (by omega)
  have inQ : ∀ c : Nat, m ≤ c → c < b → rdOf ByteArray.empty D (c : Int) ∈ Q := fun c h1 h2 => by rw [hD]; exact rd_in (by rw [HAL.out]; omega) (by rw [HAL.out]; omega)
  have prL : ∀ i j : Nat, a ≤ i → i < j → j < m → R (rdOf ByteArray.empty D (i : Int)) (rdOf ByteArray.empty D (j : Int)) := fun i j h1 h2 h3 => by rw [hD1]; exact rd_pair sL (by omega) h2 (by omega)
  have prQ : ∀ i j : Nat, m ≤ i → i < j → j < b → R (rdOf ByteArray.empty D (i : Int)) (rdOf ByteArray.empty D (j : Int)) := fun i j h1 h2 h3 => by rw [hD]; exact rd_pair sQ (by rw [HAL.out]; omega) h2 (by rw [HAL.out]; omega)
  obtain ⟨t, t1, t2, t3, t4⟩ := bound_ex (fun c => R (rdOf ByteArray.empty D (c : Int)) (rdOf ByteArray.empty D ((n - 1 - c : Nat) : Int))) (r0 - s0) s0 r0 (by have := sym_nums hl2 hq2 hm hb hmid hn s0 r0 hs; omega) (fun c c' h1 h2 h3 hf => by
    obtain ⟨i1, i2, i3, i4, i5⟩ := sym_idx hl2 hq2 hm hb hmid hn s0 r0 hs c h1 (by omega)
    obtain ⟨j1, j2, j3, j4, j5⟩ := sym_idx hl2 hq2 hm hb hmid hn s0 r0 hs c' (by omega) h3
    exact O.tr _ _ _ (prL c c' i1 h2 j2) (O.tr _ _ _ hf (prQ _ _ j3 (by omega) i4)))
  obtain ⟨w1, w2, w3, w4, w5, w6, w7, w8, w9, w10⟩ := sym_end hl2 hq2 hm hb hmid hn s0 r0 hs t t1 t2
  obtain ⟨e, he⟩ : ∃ e, e = n - t := ⟨_, rfl⟩
  rw [← he] at w3 w4 w6 w7 w8 w9
  -- the pieces
  obtain ⟨L1, hL1⟩ : ∃ X, X = L.take (t - a) := ⟨_, rfl⟩
  obtain ⟨L2, hL2⟩ : ∃ X, X = L.drop (t - a) := ⟨_, rfl⟩
  obtain ⟨Q1, hQ1⟩ : ∃ X, X = Q.take (e - m) := ⟨_, rfl⟩
  obtain ⟨Q2, hQ2⟩ : ∃ X, X = Q.drop (e - m) := ⟨_, rfl⟩
  have eL : L = L1 ++ L2 := by rw [hL1, hL2, List.take_append_drop]
  have eQ : Q = Q1 ++ Q2 := by rw [hQ1, hQ2, List.take_append_drop]
  have l1 : L1.length = t - a := by rw [hL1, List.length_take]; omega
  have l2 : L2.length = m - t := by rw [hL2, List.length_drop]; omega
  have l3 : Q1.length = e - m := by rw [hQ1, List.length_take]; omega
  have l4 : Q2.length = b - e := by rw [hQ2, List.length_drop]; omega
  clear hL1 hL2 hQ1 hQ2
  have d1 : D = A ++ L1 ++ (L2 ++ Q ++ B) := by rw [hD, eL]; simp
  have d2 : D = (A ++ L1) ++ L2 ++ (Q ++ B) := by rw [hD, eL]; simp
  have d3 : D = (A ++ L) ++ Q1 ++ (Q2 ++ B) := by rw [hD, eQ]; simp
  have d4 : D = (A ++ L ++ Q1) ++ Q2 ++ B := by rw [hD, eQ]; simp
  have HA1 : Aside0 ((A ++ L1).length = t) := ⟨by rw [List.length_append]; omega⟩
  have HA3 : Aside0 ((A ++ L ++ Q1).length = e) := ⟨by rw [List.length_append, HAL.out]; omega⟩
  have h12 : ∀ x, x ∈ L1 → ∀ y, y ∈ Q2 → R x y := by
    intro x hx y hy
    obtain ⟨i, i1, i2, rfl⟩ := mem_rd (A := A) (C := L2 ++ Q ++ B) hx
    obtain ⟨j, j1, j2, rfl⟩ := mem_rd (A := A ++ L ++ Q1) (C := B) hy
    rw [← d1, ← d4]
    rw [HA3.out] at j1 j2
    have h0 : R (rdOf ByteArray.empty D ((t - 1 : Nat) : Int)) (rdOf ByteArray.empty D (e : Int)) := by
      have := t3 (t - 1) (by have := w6 (by omega) (by omega); omega) (by omega)
      rwa [show n - 1 - (t - 1) = e by omega] at this
    have h1 : R (rdOf ByteArray.empty D (i : Int)) (rdOf ByteArray.empty D (e : Int)) := by
      by_cases ee : i = t - 1
      · rw [ee]; exact h0
      · exact O.tr _ _ _ (prL i (t - 1) (by omega) (by omega) (by omega)) h0
    by_cases ee : j = e
    · rw [ee]; exact h1
    · exact O.tr _ _ _ h1 (prQ e j (by omega) (by omega) (by omega))
  have h21 : ∀ y, y ∈ Q1 → ∀ x, x ∈ L2 → R y x := by
    intro y hy x hx
    obtain ⟨i, i1, i2, rfl⟩ := mem_rd (A := A ++ L1) (C := Q ++ B) hx
    obtain ⟨j, j1, j2, rfl⟩ := mem_rd (A := A ++ L) (C := Q2 ++ B) hy
    rw [← d2, ← d3]
    rw [HA1.out] at i1 i2
    rw [HAL.out] at j1 j2
    have h0 : R (rdOf ByteArray.empty D ((e - 1 : Nat) : Int)) (rdOf ByteArray.empty D (t : Int)) := by
      have hnf := t4 t (Nat.le_refl _) (w7 (by omega) (by omega))
      rw [show n - 1 - t = e - 1 by omega] at hnf
      obtain ⟨v, v1, v2, v3⟩ := hc _ (inL t (by omega) (by omega)) _ (inQ (e - 1) (by omega) (by omega))
      by_cases hv : v < 0
      · exact v2 hv
      · exact (hnf (v3 hv)).elim
    have h1 : R (rdOf ByteArray.empty D (j : Int)) (rdOf ByteArray.empty D (t : Int)) := by
      by_cases ee : j = e - 1
      · rw [ee]; exact h0
      · exact O.tr _ _ _ (prQ j (e - 1) (by omega) (by omega) (by omega)) h0
    by_cases ee : i = t
    · rw [ee]; exact h1
    · exact O.tr _ _ _ h1 (prL t i (by omega) (by omega) (by omega))
  have sL' := sL
  have sQ' := sQ
  rw [eL] at sL'
  rw [eQ] at sQ'
  obtain ⟨s1, s3, _⟩ := List.pairwise_append.1 sL'
  obtain ⟨s2, s4, _⟩ := List.pairwise_append.1 sQ'
  obtain ⟨S1, S2, g1, g2, g3, g4, g5⟩ := tail_ev x4 s ih L1 Q1 L2 Q2 A B (by omega) (by omega) s1 s2 s3 s4 (fun x hx y hy => hc x (by rw [eL]; exact List.mem_append_left _ hx) y (by rw [eQ]; exact List.mem_append_left _ hy)) (fun x hx y hy => hc x (by rw [eL]; exact List.mem_append_right _ hx) y (by rw [eQ]; exact List.mem_append_right _ hy)) (by omega) a t mid e b ha (by omega) (by omega) (by omega) (by omega)
  have gm := merge_two sL' sQ' h12 h21 g2 g3 g4 g5
  refine ⟨S1 ++ S2, ?_, by rw [eL, eQ]; exact gm.1, gm.2⟩
  have hrot := fun fl hfl => rotd_ev x4 L1 L2 Q1 Q2 A B (A ++ S1 ++ S2 ++ B) (by omega) a t m e b mid ha (by omega) (by omega) (by omega) g1 fl hfl
  rw [← eL, ← eQ, ← hD, show A ++ S1 ++ S2 ++ B = A ++ (S1 ++ S2) ++ B by simp] at hrot
  rw [← hD]
  clear g1 g2 g3 g4 g5 gm h12 h21 s1 s2 s3 s4 sL' sQ' d1 d2 d3 d4 HA1 HA3 eL eQ hD hD1 sL sQ prL prQ ih w8 w9 l1 l2 l3 l4
  generalize A ++ (S1 ++ S2) ++ B = E at *
  have f1 : ∀ c, s0 ≤ c → c < t → ∃ v, p (rdOf ByteArray.empty D ((n - 1 - c : Nat) : Int)) (rdOf ByteArray.empty D (c : Int)) = some v ∧ ¬ v < 0 := fun c h1 h2 => by
    obtain ⟨i1, i2, i3, i4, i5⟩ := sym_idx hl2 hq2 hm hb hmid hn s0 r0 hs c h1 (by omega)
    obtain ⟨v, v1, v2, v3⟩ := hc _ (inL c i1 i2) _ (inQ _ i3 i4)
    exact ⟨v, v1, fun hv => O.asy _ _ (t3 c h1 h2) (v2 hv)⟩
  have f2 : ∀ c, t ≤ c → c < r0 → ∃ v, p (rdOf ByteArray.empty D ((n - 1 - c : Nat) : Int)) (rdOf ByteArray.empty D (c : Int)) = some v ∧ v < 0 := fun c h1 h2 => by
    obtain ⟨i1, i2, i3, i4, i5⟩ := sym_idx hl2 hq2 hm hb hmid hn s0 r0 hs c (by omega) h2
    obtain ⟨v, v1, v2, v3⟩ := hc _ (inL c i1 i2) _ (inQ _ i3 i4)
    by_cases hv : v < 0
    · exact ⟨v, v1, hv⟩
    · exact (t4 c h1 h2 (v3 hv)).elim
  have HDL' : ∀ c : Nat, c < b → ((c : Int) < (D.length : Int)) = True := fun c h => eq_true (by rw [HDL.out]; omega)
  have hn1 : n ≤ 4194304 := by omega
  refine Ev.succ ?_
  have ep : wrap64 ((n : Int) - 1) = ((n - 1 : Nat) : Int) := wrap_pred (by omega) (by omega)
  simp only [slices_symMergeCmpFunc_string.j4, ep]
  refine Ev.bsearch (L := fun k i j => slices_symMergeCmpFunc_string.l4 p k D (a : Int) (m : Int) (b : Int) x4 (mid : Int) (n : Int) (i : Int) (j : Int) ((n - 1 : Nat) : Int)) t s0 r0 ?_ ?_ ?_ _ s0 r0 (Nat.le_refl _) (Nat.le_refl _) t1 t2 (Nat.le_refl _)
  · intro i j h1 h2 h3 h4 h
    obtain ⟨v, v1, v2⟩ := f1 ((i + j) / 2) (by omega) h4
    obtain ⟨i1, i2, i3, i4, i5⟩ := sym_idx hl2 hq2 hm hb hmid hn s0 r0 hs ((i + j) / 2) (by omega) (by omega)
    have ec : wrap64 (((n - 1 : Nat) : Int) - (((i + j) / 2 : Nat) : Int)) = ((n - 1 - (i + j) / 2 : Nat) : Int) := by rw [wrap_id (x := ((n - 1 : Nat) : Int) - (((i + j) / 2 : Nat) : Int)) (by omega) (by omega)]; omega
    refine Ev.succ ?_
    simp only [slices_symMergeCmpFunc_string.l4, show ((i : Int) < (j : Int)) = True from eq_true (by omega), if_true, mid_eq i j (by omega), ec, nat_nonneg, HDL' _ i4, HDL' ((i + j) / 2) (by omega), v1, Option.bind_some, eq_false v2, if_false, wrap_succ (show (i + j) / 2 < 4611686018427387904 by omega)]
    exact h
  · intro i j h1 h2 h3 h4 h
    obtain ⟨v, v1, v2⟩ := f2 ((i + j) / 2) h4 (by omega)
    obtain ⟨i1, i2, i3, i4, i5⟩ := sym_idx hl2 hq2 hm hb hmid hn s0 r0 hs ((i + j) / 2) (by omega) (by omega)
    have ec : wrap64 (((n - 1 : Nat) : Int) - (((i + j) / 2 : Nat) : Int)) = ((n - 1 - (i + j) / 2 : Nat) : Int) := by rw [wrap_id (x := ((n - 1 : Nat) : Int) - (((i + j) / 2 : Nat) : Int)) (by omega) (by omega)]; omega
    refine Ev.succ ?_
    simp only [slices_symMergeCmpFunc_string.l4, show ((i : Int) < (j : Int)) = True from eq_true (by omega), if_true, mid_eq i j (by omega), ec, nat_nonneg, HDL' _ i4, HDL' ((i + j) / 2) (by omega), v1, Option.bind_some, eq_true v2]
    exact h
  · refine Ev.succ ?_
    have ee : wrap64 ((n : Int) - (t : Int)) = (e : Int) := by rw [wrap_id (x := (n : Int) - (t : Int)) (by omega) (by omega)]; omega
    simp only [slices_symMergeCmpFunc_string.l4, Int.lt_irrefl, if_false, ee]
    by_cases h : t < m
    · simp only [show ((t : Int) < (m : Int)) = True from eq_true (by omega), if_true]
      refine hrot _ ?_
      rw [decide_eq_decide]
      omega
    · simp only [show ((t : Int) < (m : Int)) = False from eq_false (by omega), if_false]
      refine hrot _ ?_
      rw [eq_comm]
      exact decide_eq_false (by omega)
theorem symf_nums {a l q : Nat} (hB : a + l + q ≤ 1048576) : wrap64 (((a + l : Nat) : Int) - (a : Int)) = (l : Int) ∧ wrap64 (((a + l + q : Nat) : Int) - ((a + l : Nat) : Int)) = (q : Int) ∧ wrap64 ((IntKind.u64.wrap (wrap64 ((a : Int) + ((a + l + q : Nat) : Int)))) / 2) = (((a + (a + l + q)) / 2 : Nat) : Int) ∧ wrap64 ((((a + (a + l + q)) / 2 : Nat) : Int) + ((a + l : Nat) : Int)) = (((a + (a + l + q)) / 2 + (a + l) : Nat) : Int) := by
  refine ⟨?_, ?_, mid_eq a (a + l + q) (by omega), ?_⟩
  · rw [wrap_id (x := ((a + l : Nat) : Int) - (a : Int)) (by omega) (by omega)]; omega
  · rw [wrap_id (x := ((a + l + q : Nat) : Int) - ((a + l : Nat) : Int)) (by omega) (by omega)]; omega
  · rw [wrap_id (x := (((a + (a + l + q)) / 2 : Nat) : Int) + ((a + l : Nat) : Int)) (by omega) (by omega)]; omega
theorem symf_gt {a l q : Nat} (hB : a + l + q ≤ 1048576) (h : (a + (a + l + q)) / 2 < a + l) : (((a + l : Nat) : Int) > (((a + (a + l + q)) / 2 : Nat) : Int)) = True ∧ (a + (a + l + q)) / 2 + (a + l) - (a + l + q) + (a + l + q) = (a + (a + l + q)) / 2 + (a + l) ∧ wrap64 ((((a + (a + l + q)) / 2 + (a + l) : Nat) : Int) - ((a + l + q : Nat) : Int)) = (((a + (a + l + q)) / 2 + (a + l) - (a + l + q) : Nat) : Int) := by
  refine ⟨eq_true (by omega), by omega, ?_⟩
  rw [wrap_id (x := (((a + (a + l + q)) / 2 + (a + l) : Nat) : Int) - ((a + l + q : Nat) : Int)) (by omega) (by omega)]; omega
theorem symf_le {a l q : Nat} (h : ¬ (a + (a + l + q)) / 2 < a + l) : (((a + l : Nat) : Int) > (((a + (a + l + q)) / 2 : Nat) : Int)) = False ∧ a + l ≤ (a + (a + l + q)) / 2 := ⟨eq_false (by omega), by omega⟩
theorem ne_one {n : Nat} (h : n ≠ 1) : ((n : Int) = 1) = False := eq_false (by omega)
theorem two_le {n : Nat} (h0 : 0 < n) (h : n ≠ 1) : 2 ≤ n := by omega
theorem sum3 {a l q b : Nat} (h : a + l + q + b ≤ 1048576) : a + l + q ≤ 1048576 := by omega
theorem sumA {a q b : Nat} (h : a + 1 + q + b ≤ 1048576) : a + q + b + 1 ≤ 1048576 := by omega
theorem sumB {a l b : Nat} (h : a + l + 1 + b ≤ 1048576) : a + l + b + 1 ≤ 1048576 := by omega
theorem sym_ev (O : OrdS R) (x4 : Int) : ∀ s, MergesTo p R x4 s := by
  intro s
  induction s with
  | zero => intro L Q A B h1 h2; omega
  | succ s ih =>
    intro L Q A B hs hl hq sL sQ hc hB
    obtain ⟨em1, em2, emid, en⟩ := symf_nums (sum3 hB)
    by_cases h1 : L.length = 1
    · obtain ⟨x, rfl⟩ := List.length_eq_one_iff.1 h1
      obtain ⟨S, g1, g2, g3⟩ := armA O x Q A B sQ (hc x (List.mem_singleton.2 rfl)) (sumA hB)
      refine ⟨S, Ev.succ ?_, g2, g3⟩
      simp only [List.length_singleton] at em1 em2 ⊢
      simp only [slices_symMergeCmpFunc_string.f, em1, show (((1 : Nat) : Int) = 1) = True from eq_true rfl, if_true]
      rw [show A ++ [x] ++ Q ++ B = A ++ x :: Q ++ B by simp]
      exact g1
    · by_cases h2 : Q.length = 1
      · obtain ⟨y, rfl⟩ := List.length_eq_one_iff.1 h2
        obtain ⟨S, g1, g2, g3⟩ := armB O y L A B sL (fun x hx => hc x hx y (List.mem_singleton.2 rfl)) (sumB hB)
        refine ⟨S, Ev.succ ?_, g2, g3⟩
        simp only [List.length_singleton] at em1 em2 ⊢
        simp only [slices_symMergeCmpFunc_string.f, em1, em2, ne_one h1, show (((1 : Nat) : Int) = 1) = True from eq_true rfl, if_true, if_false]
        rw [show A ++ L ++ [y] ++ B = A ++ L ++ y :: B by simp]
        exact g1
      · by_cases h3 : (A.length + (A.length + L.length + Q.length)) / 2 < A.length + L.length
        · obtain ⟨k1, k2, k3⟩ := symf_gt (sum3 hB) h3
          obtain ⟨S, g1, g2, g3⟩ := armC O x4 s ih L Q A B hs (two_le hl h1) (two_le hq h2) sL sQ hc hB A.length (A.length + L.length) (A.length + L.length + Q.length) _ _ _ _ rfl rfl rfl rfl rfl (.inl ⟨h3, k2, rfl⟩)
          refine ⟨S, Ev.succ ?_, g2, g3⟩
          simp only [slices_symMergeCmpFunc_string.f, em1, em2, ne_one h1, ne_one h2, if_false, emid, en, k3, k1, if_true]
          exact g1
        · obtain ⟨k1, k2⟩ := symf_le h3
          obtain ⟨S, g1, g2, g3⟩ := armC O x4 s ih L Q A B hs (two_le hl h1) (two_le hq h2) sL sQ hc hB A.length (A.length + L.length) (A.length + L.length + Q.length) _ _ _ _ rfl rfl rfl rfl rfl (.inr ⟨k2, rfl, rfl⟩)
          refine ⟨S, Ev.succ ?_, g2, g3⟩
          simp only [slices_symMergeCmpFunc_string.f, em1, em2, ne_one h1, ne_one h2, if_false, emid, en, k1]
          exact g1
theorem ins_nums {a s c i : Nat} (hB : a + s + c + 2 ≤ 1048576) (hi : i ≤ 1048576) : wrap64 (((a + s + 1 : Nat) : Int) - 1) = ((a + s : Nat) : Int) ∧ (((a + s + 1 : Nat) : Int) > (a : Int)) = True ∧ (((a + s + 1 : Nat) : Int) < ((a + s + c + 2 : Nat) : Int)) = True ∧ (((a + s : Nat) : Int) < ((a + s + c + 2 : Nat) : Int)) = True ∧ wrap64 ((i : Int) + 1) = ((i + 1 : Nat) : Int) := by
  refine ⟨?_, eq_true (by omega), eq_true (by omega), eq_true (by omega), wrap_succ (by omega)⟩
  rw [wrap_id (x := ((a + s + 1 : Nat) : Int) - 1) (by omega) (by omega)]; omega
theorem ins_l1 (O : OrdS R) (x : ByteArray) (A : List ByteArray) : ∀ (n : Nat) (S C : List ByteArray), S.length = n → S.Pairwise R → (∀ s, s ∈ S → Qs p R s x) → A.length + S.length + C.length + 1 ≤ 1048576 →
    ∃ S' : List ByteArray, S'.Perm (x :: S) ∧ S'.Pairwise R ∧ ∀ (r : List ByteArray) (b i : Nat), i ≤ 1048576 → Ev (fun k => slices_insertionSortCmpFunc_string.l0 p k (A ++ S' ++ C) (A.length : Int) (b : Int) ((i + 1 : Nat) : Int)) r → Ev (fun k => slices_insertionSortCmpFunc_string.l1 p k (A ++ S ++ x :: C) (A.length : Int) (b : Int) (i : Int) ((A.length + S.length : Nat) : Int)) r := by
  intro n
  induction n with
  | zero =>
    intro S C hn hp hq hB
    obtain rfl := List.eq_nil_of_length_eq_zero hn
    refine ⟨[x], List.Perm.refl _, List.pairwise_singleton _ _, fun r b i hi h => Ev.succ ?_⟩
    simp only [slices_insertionSortCmpFunc_string.l1, List.length_nil, Nat.add_zero, show ((A.length : Int) > (A.length : Int)) = False from eq_false (Int.lt_irrefl _), if_false, wrap_succ (show i < 4611686018427387904 by omega)]
    rw [show A ++ [] ++ x :: C = A ++ [x] ++ C by simp]
    exact h
  | succ n ih =>
    intro S C hn hp hq hB
    obtain ⟨S0, s, rfl⟩ : ∃ S' s, S = S' ++ [s] := ⟨S.dropLast, S.getLast (by intro h; rw [h] at hn; simp at hn), (List.dropLast_concat_getLast _).symm⟩
    rw [List.length_append, List.length_singleton] at hn hB
    obtain ⟨p1, _, p3⟩ := List.pairwise_append.1 hp
    obtain ⟨v, v1, v2, v3⟩ := hq s (List.mem_append_right _ (List.mem_singleton.2 rfl))
    have q1 : A ++ (S0 ++ [s]) ++ x :: C = (A ++ S0) ++ s :: (x :: C) := by simp
    have q2 : A ++ (S0 ++ [s]) ++ x :: C = (A ++ S0 ++ [s]) ++ x :: C := by simp
    have lA : (A ++ S0).length = A.length + S0.length := List.length_append
    have lB : (A ++ S0 ++ [s]).length = A.length + S0.length + 1 := by rw [List.length_append, lA, List.length_singleton]
    have r1 : rdOf ByteArray.empty (A ++ (S0 ++ [s]) ++ x :: C) ((A.length + S0.length : Nat) : Int) = s := by rw [q1]; exact rdAt (by rw [lA])
    have r2 : rdOf ByteArray.empty (A ++ (S0 ++ [s]) ++ x :: C) ((A.length + S0.length + 1 : Nat) : Int) = x := by rw [q2]; exact rdAt (by rw [lB])
    have s1 : ((A ++ (S0 ++ [s]) ++ x :: C).set (A.length + S0.length + 1) s).set (A.length + S0.length) x = A ++ S0 ++ x :: (s :: C) := by
      rw [q2, setAt lB.symm, show (A ++ S0 ++ [s]) ++ s :: C = (A ++ S0) ++ s :: (s :: C) by simp, setAt lA.symm]
    have ll : (A ++ (S0 ++ [s]) ++ x :: C).length = A.length + S0.length + C.length + 2 := by rw [q2, List.length_append, lB, List.length_cons]; clear lA lB r1 r2 s1 q1 q2; omega
    have LL := Aside0.mk ll
    have e0 : A.length + (S0 ++ [s]).length = A.length + S0.length + 1 := by rw [List.length_append, List.length_singleton, Nat.add_assoc]
    have E0 := Aside0.mk e0
    clear ll lA lB e0
    have hB2 : A.length + S0.length + C.length + 2 ≤ 1048576 := by omega
    by_cases hv : v < 0
    · obtain ⟨S', g1, g2, g3⟩ := ih S0 (s :: C) (by omega) p1 (fun z hz => hq z (List.mem_append_left _ hz)) (by rw [List.length_cons]; omega)
      refine ⟨S' ++ [s], ?_, ?_, fun r b i hi h => Ev.succ ?_⟩
      · exact (g1.append_right [s])
      · refine List.pairwise_append.2 ⟨g2, List.pairwise_singleton _ _, fun z hz w hw => ?_⟩
        rw [List.mem_singleton.1 hw]
        rcases List.mem_cons.1 (g1.mem_iff.1 hz) with rfl | hz
        · exact v2 hv
        · exact p3 z hz s (List.mem_singleton.2 rfl)
      · obtain ⟨n1, n2, n3, n4, n5⟩ := ins_nums (i := i) hB2 hi
        have key := g3 r b i hi (by rw [show A ++ S' ++ (s :: C) = A ++ (S' ++ [s]) ++ C by simp]; exact h)
        rw [E0.out]
        simp only [slices_insertionSortCmpFunc_string.l1, n1, n2, if_true, nat_nonneg, LL.out, n3, n4, r1, r2, v1, Option.bind_some, eq_true hv, Int.toNat_natCast, s1]
        exact key
    · refine ⟨(S0 ++ [s]) ++ [x], List.perm_append_singleton _ _, ?_, fun r b i hi h => Ev.succ ?_⟩
      · refine List.pairwise_append.2 ⟨hp, List.pairwise_singleton _ _, fun z hz w hw => ?_⟩
        rw [List.mem_singleton.1 hw]
        rcases List.mem_append.1 hz with hz | hz
        · exact O.tr _ _ _ (p3 z hz s (List.mem_singleton.2 rfl)) (v3 hv)
        · rw [List.mem_singleton.1 hz]; exact v3 hv
      · obtain ⟨n1, n2, n3, n4, n5⟩ := ins_nums (i := i) hB2 hi
        rw [E0.out]
        simp only [slices_insertionSortCmpFunc_string.l1, n1, n2, if_true, nat_nonneg, LL.out, n3, n4, r1, r2, v1, Option.bind_some, eq_false hv, if_false, n5]
        rw [show A ++ (S0 ++ [s]) ++ x :: C = A ++ (S0 ++ [s] ++ [x]) ++ C by simp]
        exact h
theorem ins_l0 (O : OrdS R) (A C : List ByteArray) : ∀ (n : Nat) (T S : List ByteArray), T.length = n → S.Pairwise R → T.Pairwise (Qs p R) → (∀ s, s ∈ S → ∀ t, t ∈ T → Qs p R s t) → A.length + S.length + T.length + C.length ≤ 1048576 →
    ∃ S' : List ByteArray, S'.Perm (S ++ T) ∧ S'.Pairwise R ∧ Ev (fun k => slices_insertionSortCmpFunc_string.l0 p k (A ++ S ++ T ++ C) (A.length : Int) ((A.length + S.length + T.length : Nat) : Int) ((A.length + S.length : Nat) : Int)) (A ++ S' ++ C) := by
  intro n
  induction n with
  | zero =>
    intro T S hn hp _ _ hB
    obtain rfl := List.eq_nil_of_length_eq_zero hn
    refine ⟨S, by rw [List.append_nil], hp, Ev.succ ?_⟩
    simp only [slices_insertionSortCmpFunc_string.l0, List.length_nil, Nat.add_zero, Int.lt_irrefl, if_false, List.append_nil]
    exact Ev.now _
  | succ n ih =>
    intro T S hn hp hT hc hB
    cases T with
    | nil => simp at hn
    | cons x T =>
      rw [List.length_cons] at hn hB
      obtain ⟨hx, hT'⟩ := List.pairwise_cons.1 hT
      obtain ⟨S1, g1, g2, g3⟩ := ins_l1 O x A S.length S (T ++ C) rfl hp (fun s hs => hc s hs x (List.mem_cons_self ..)) (by rw [List.length_append]; omega)
      have l1 : S1.length = S.length + 1 := by rw [g1.length_eq, List.length_cons]
      obtain ⟨S', k1, k2, k3⟩ := ih T S1 (by omega) g2 hT' (fun s hs t ht => by
        rcases List.mem_cons.1 (g1.mem_iff.1 hs) with rfl | hs
        · exact hx t ht
        · exact hc s hs t (List.mem_cons_of_mem _ ht)) (by omega)
      refine ⟨S', k1.trans ((g1.append_right T).trans ?_), k2, Ev.succ ?_⟩
      · exact (List.perm_middle (l₁ := S) (l₂ := T) (a := x)).symm
      · have e1 : A.length + S1.length + T.length = A.length + S.length + (x :: T).length := by rw [l1, List.length_cons]; omega
        have e2 : A.length + S1.length = A.length + S.length + 1 := by rw [l1]; omega
        rw [e1, e2, show A ++ S1 ++ T ++ C = A ++ S1 ++ (T ++ C) by simp] at k3
        have key := g3 _ (A.length + S.length + (x :: T).length) (A.length + S.length) (by omega) k3
        have hlt : (((A.length + S.length : Nat) : Int) < ((A.length + S.length + (x :: T).length : Nat) : Int)) = True := eq_true (by rw [List.length_cons]; omega)
        simp only [slices_insertionSortCmpFunc_string.l0, hlt, if_true]
        rw [show A ++ S ++ (x :: T) ++ C = A ++ S ++ x :: (T ++ C) by simp]
        exact key
theorem ins_ev (O : OrdS R) (x4 : Int) (A C T : List ByteArray) (hT : T.Pairwise (Qs p R)) (hB : A.length + T.length + C.length ≤ 1048576) :
    ∃ S' : List ByteArray, S'.Perm T ∧ S'.Pairwise R ∧ Ev (fun k => slices_insertionSortCmpFunc_string.f p k (A ++ T ++ C) (A.length : Int) ((A.length + T.length : Nat) : Int) x4) (A ++ S' ++ C) := by
  unfold slices_insertionSortCmpFunc_string.f
  rw [wrap_succ (show A.length < 4611686018427387904 by omega)]
  cases T with
  | nil =>
    refine ⟨[], List.Perm.refl _, List.Pairwise.nil, Ev.succ ?_⟩
    simp only [slices_insertionSortCmpFunc_string.l0, List.length_nil, Nat.add_zero, show (((A.length + 1 : Nat) : Int) < (A.length : Int)) = False from eq_false (by omega), if_false]
    exact Ev.now _
  | cons x T =>
    obtain ⟨hx, hT'⟩ := List.pairwise_cons.1 hT
    rw [List.length_cons] at hB
    obtain ⟨S', k1, k2, k3⟩ := ins_l0 (p := p) O A C T.length T [x] rfl (List.pairwise_singleton _ _) hT' (fun s hs t ht => by rw [List.mem_singleton.1 hs]; exact hx t ht) (by rw [List.length_singleton]; omega)
    refine ⟨S', k1, k2, ?_⟩
    rw [List.length_singleton, show A.length + 1 + T.length = A.length + (x :: T).length by rw [List.length_cons]; omega, show A ++ [x] ++ T ++ C = A ++ (x :: T) ++ C by simp] at k3
    exact k3
/-- A row in ordered pieces of bs (the last may be shorter), each a piece of the row that came. -/
def Chk (R : ByteArray → ByteArray → Prop) (bs : Nat) : Nat → List ByteArray → List ByteArray → Prop
  | 0, x, o => x.length ≤ bs ∧ x.Perm o ∧ x.Pairwise R
  | n + 1, x, o => ∃ x1 o1 y q, x = x1 ++ y ∧ o = o1 ++ q ∧ x1.length = bs ∧ x1.Perm o1 ∧ x1.Pairwise R ∧ Chk R bs n y q
theorem Chk.perm {bs : Nat} : ∀ {n : Nat} {x o : List ByteArray}, Chk R bs n x o → x.Perm o
  | 0, _, _, h => h.2.1
  | n + 1, _, _, ⟨x1, o1, y, q, rfl, rfl, _, h, _, hr⟩ => h.append (Chk.perm hr)
theorem Chk.small {bs : Nat} (hb : 1 ≤ bs) : ∀ {n : Nat} {x o : List ByteArray}, Chk R bs n x o → x.length ≤ bs → x.Pairwise R
  | 0, _, _, h, _ => h.2.2
  | n + 1, _, _, ⟨x1, o1, y, q, rfl, rfl, hl, h, hp, hr⟩, hs => by
    have : y = [] := List.eq_nil_of_length_eq_zero (by rw [List.length_append] at hs; omega)
    rw [this, List.append_nil]
    exact hp
theorem pass_nums {a bs n : Nat} (hB : n ≤ 1048576) (ha : a ≤ n) (hb : bs ≤ 1048576) : wrap64 ((a : Int) + (bs : Int)) = ((a + bs : Nat) : Int) ∧ wrap64 (((a + 2 * bs : Nat) : Int) + wrap64 (2 * (bs : Int))) = ((a + 2 * bs + 2 * bs : Nat) : Int) ∧ wrap64 ((bs : Int) * 2) = ((2 * bs : Nat) : Int) ∧ wrap64 (2 * (bs : Int)) = ((2 * bs : Nat) : Int) := by
  refine ⟨?_, ?_, ?_, ?_⟩
  · rw [wrap_id (x := (a : Int) + (bs : Int)) (by omega) (by omega)]; omega
  · rw [wrap_id (x := 2 * (bs : Int)) (by omega) (by omega), wrap_id (x := ((a + 2 * bs : Nat) : Int) + 2 * (bs : Int)) (by omega) (by omega)]; omega
  · rw [wrap_id (x := (bs : Int) * 2) (by omega) (by omega)]; omega
  · rw [wrap_id (x := 2 * (bs : Int)) (by omega) (by omega)]; omega
theorem le_iff' {a b : Nat} (h : a ≤ b) : ((a : Int) ≤ (b : Int)) = True := eq_true (by omega)
theorem le_iff'' {a b : Nat} (h : b < a) : ((a : Int) ≤ (b : Int)) = False := eq_false (by omega)
theorem lt_iff' {a b : Nat} (h : a < b) : ((a : Int) < (b : Int)) = True := eq_true (by omega)
theorem lt_iff'' {a b : Nat} (h : b ≤ a) : ((a : Int) < (b : Int)) = False := eq_false (by omega)
set_option maxHeartbeats 1000000 in
theorem pass_ev (O : OrdS R) (x2 : Int) (bs : Nat) (hb1 : 1 ≤ bs) (hb2 : bs ≤ 1048576) (n : Nat) (hn : n ≤ 1048576) : ∀ (c : Nat) (Rest o Done : List ByteArray), Chk R bs c Rest o → o.Pairwise (Qs p R) → n = Done.length + Rest.length →
    ∃ c' Z, Chk R (2 * bs) c' Z o ∧ Z.length = Rest.length ∧ ∀ r, Ev (fun k => slices_stableCmpFunc_string.l1 p k (Done ++ Z) (n : Int) x2 ((2 * bs : Nat) : Int)) r → Ev (fun k => slices_stableCmpFunc_string.l2 p k (Done ++ Rest) (n : Int) x2 (bs : Int) (Done.length : Int) ((Done.length + 2 * bs : Nat) : Int)) r := by
  intro c
  induction c using Nat.strongRecOn with
  | _ c ih =>
  intro Rest o Done hC ho hl
  have hDn : Done.length ≤ n := by omega
  obtain ⟨m1, m2, m3, m4⟩ := pass_nums (a := Done.length) (bs := bs) hn hDn hb2
  match c, hC with
  | 0, hC =>
    obtain ⟨h1, h2, h3⟩ := hC
    refine ⟨0, Rest, ⟨by omega, h2, h3⟩, rfl, fun r h => Ev.succ ?_⟩
    simp only [slices_stableCmpFunc_string.l2, le_iff'' (show n < Done.length + 2 * bs by omega), if_false, m1, lt_iff'' (show n ≤ Done.length + bs by omega), m3]
    exact h
  | 1, hC =>
    obtain ⟨x1, o1, y, q, rfl, rfl, h1, h2, h3, h4, h5, h6⟩ := hC
    rw [List.length_append] at hl
    obtain ⟨ho1, ho2, ho3⟩ := List.pairwise_append.1 ho
    have hcross : ∀ x, x ∈ x1 → ∀ z, z ∈ y → Qs p R x z := fun x hx z hz => ho3 x (h2.mem_iff.1 hx) z (h5.mem_iff.1 hz)
    by_cases hy : y.length = 0
    · obtain rfl := List.eq_nil_of_length_eq_zero hy
      have hq : q = [] := List.Perm.nil_eq h5 |>.symm
      subst hq
      rw [List.append_nil, List.append_nil]
      rw [List.length_nil] at hl
      refine ⟨0, x1, ⟨by omega, h2, h3⟩, rfl, fun r h => Ev.succ ?_⟩
      simp only [slices_stableCmpFunc_string.l2, le_iff'' (show n < Done.length + 2 * bs by omega), if_false, m1, lt_iff'' (show n ≤ Done.length + bs by omega), m3]
      exact h
    · obtain ⟨Z, g1, g2, g3⟩ := sym_ev (p := p) O x2 (x1.length + y.length) x1 y Done [] (Nat.le_refl _) (by omega) (by omega) h3 h6 hcross (by rw [List.length_nil]; omega)
      have lZ : Z.length = x1.length + y.length := by rw [g2.length_eq, List.length_append]
      rw [List.append_nil, List.append_nil, h1] at g1
      rw [show Done ++ x1 ++ y = Done ++ (x1 ++ y) by simp] at g1
      by_cases hfull : y.length = bs
      · rw [hfull] at g1 hl lZ
        rw [h1] at lZ hl
        have e2 : Done.length + bs + bs = Done.length + 2 * bs := by omega
        rw [e2] at g1
        obtain ⟨c', Z', k1, k2, k3⟩ := ih 0 (by omega) [] [] (Done ++ Z) ⟨by rw [List.length_nil]; omega, List.Perm.refl _, List.Pairwise.nil⟩ List.Pairwise.nil (by rw [List.length_append, List.length_nil]; omega)
        refine ⟨c' + 1, Z ++ Z', ⟨Z, o1 ++ q, Z', [], rfl, by rw [List.append_nil], by rw [lZ]; omega, g2.trans (h2.append h5), g3, k1⟩, by rw [List.length_append, k2, List.length_append, lZ, List.length_nil, h1, hfull]; omega, fun r h => Ev.succ ?_⟩
        have key := k3 r (by rw [List.append_assoc]; exact h)
        rw [List.append_nil, List.length_append, lZ, show Done.length + (bs + bs) = Done.length + 2 * bs by omega] at key
        simp only [slices_stableCmpFunc_string.l2, le_iff' (show Done.length + 2 * bs ≤ n by omega), if_true, m1, m2]
        exact Ev.bind g1 key
      · refine ⟨0, Z, ⟨by rw [lZ]; omega, g2.trans (h2.append h5), g3⟩, by rw [lZ, List.length_append], fun r h => Ev.succ ?_⟩
        have en : Done.length + bs + y.length = n := by omega
        rw [en] at g1
        simp only [slices_stableCmpFunc_string.l2, le_iff'' (show n < Done.length + 2 * bs by omega), if_false, m1, lt_iff' (show Done.length + bs < n by omega), if_true, m3]
        exact Ev.bind g1 h
  | c + 2, hC =>
    obtain ⟨x1, o1, y, q, rfl, rfl, h1, h2, h3, x3, o3, y3, q3, rfl, rfl, h4, h5, h6, h7⟩ := hC
    rw [List.length_append, List.length_append] at hl
    obtain ⟨ho1, ho2, ho3⟩ := List.pairwise_append.1 ho
    obtain ⟨ho4, ho5, ho6⟩ := List.pairwise_append.1 ho2
    have hcross : ∀ x, x ∈ x1 → ∀ z, z ∈ x3 → Qs p R x z := fun x hx z hz => ho3 x (h2.mem_iff.1 hx) z (List.mem_append_left _ (h5.mem_iff.1 hz))
    obtain ⟨Z, g1, g2, g3⟩ := sym_ev (p := p) O x2 (x1.length + x3.length) x1 x3 Done y3 (Nat.le_refl _) (by omega) (by omega) h3 h6 hcross (by omega)
    have lZ : Z.length = 2 * bs := by rw [g2.length_eq, List.length_append]; omega
    rw [h1, h4, show Done.length + bs + bs = Done.length + 2 * bs by omega, show Done ++ x1 ++ x3 ++ y3 = Done ++ (x1 ++ (x3 ++ y3)) by simp, show Done ++ Z ++ y3 = Done ++ Z ++ y3 by simp] at g1
    obtain ⟨c', Z', k1, k2, k3⟩ := ih c (by omega) y3 q3 (Done ++ Z) h7 ho5 (by rw [List.length_append]; omega)
    refine ⟨c' + 1, Z ++ Z', ⟨Z, o1 ++ o3, Z', q3, rfl, by rw [List.append_assoc], lZ, g2.trans (h2.append h5), g3, k1⟩, by rw [List.length_append, k2, List.length_append, List.length_append]; omega, fun r h => Ev.succ ?_⟩
    have key := k3 r (by rw [List.append_assoc]; exact h)
    rw [List.length_append, lZ] at key
    simp only [slices_stableCmpFunc_string.l2, le_iff' (show Done.length + 2 * bs ≤ n by omega), if_true, m1, m2]
    exact Ev.bind g1 key
theorem passes_ev (O : OrdS R) (x2 : Int) (n : Nat) (hn : n ≤ 1048576) (D : List ByteArray) (hD : D.Pairwise (Qs p R)) : ∀ (d bs c : Nat) (data : List ByteArray), n ≤ bs + d → 1 ≤ bs → data.length = n → Chk R bs c data D →
    ∃ S, Ev (fun k => slices_stableCmpFunc_string.l1 p k data (n : Int) x2 (bs : Int)) S ∧ S.Perm D ∧ S.Pairwise R := by
  intro d
  induction d with
  | zero =>
    intro bs c data h1 h2 h3 h4
    refine ⟨data, Ev.succ ?_, h4.perm, h4.small h2 (by omega)⟩
    simp only [slices_stableCmpFunc_string.l1, lt_iff'' (show n ≤ bs by omega), if_false]
    exact Ev.now _
  | succ d ih =>
    intro bs c data h1 h2 h3 h4
    by_cases hb : bs < n
    · obtain ⟨c', Z, k1, k2, k3⟩ := pass_ev (p := p) O x2 bs h2 (by omega) n hn c data D [] h4 hD (by rw [List.length_nil]; omega)
      obtain ⟨S, g1, g2, g3⟩ := ih (2 * bs) c' Z (by omega) (by omega) (by omega) k1
      obtain ⟨_, _, _, m4⟩ := pass_nums (a := 0) (bs := bs) hn (by omega) (by omega)
      refine ⟨S, Ev.succ ?_, g2, g3⟩
      simp only [slices_stableCmpFunc_string.l1, lt_iff' hb, if_true, m4]
      have key := k3 S g1
      rw [List.length_nil, Nat.zero_add] at key
      exact key
    · refine ⟨data, Ev.succ ?_, h4.perm, h4.small h2 (by omega)⟩
      simp only [slices_stableCmpFunc_string.l1, lt_iff'' (show n ≤ bs by omega), if_false]
      exact Ev.now _
theorem first_ev (O : OrdS R) (x2 : Int) (n : Nat) (hn : n ≤ 1048576) : ∀ (d : Nat) (T Done : List ByteArray), T.length ≤ d → n = Done.length + T.length → T.Pairwise (Qs p R) →
    ∃ c Z, Chk R 20 c Z T ∧ Z.length = T.length ∧ ∀ r, Ev (fun k => slices_stableCmpFunc_string.l1 p k (Done ++ Z) (n : Int) x2 20) r → Ev (fun k => slices_stableCmpFunc_string.l0 p k (Done ++ T) (n : Int) x2 20 (Done.length : Int) ((Done.length + 20 : Nat) : Int)) r := by
  intro d
  induction d with
  | zero =>
    intro T Done h1 h2 h3
    obtain ⟨S, g1, g2, g3⟩ := ins_ev (p := p) O x2 Done [] T h3 (by rw [List.length_nil]; omega)
    rw [List.append_nil, List.append_nil, ← h2] at g3
    refine ⟨0, S, ⟨by rw [g1.length_eq]; omega, g1, g2⟩, g1.length_eq, fun r h => Ev.succ ?_⟩
    simp only [slices_stableCmpFunc_string.l0, le_iff'' (show n < Done.length + 20 by omega), if_false]
    exact Ev.bind g3 h
  | succ d ih =>
    intro T Done h1 h2 h3
    by_cases hf : 20 ≤ T.length
    · have eT : T = T.take 20 ++ T.drop 20 := (List.take_append_drop _ _).symm
      obtain ⟨T1, hT1⟩ : ∃ X, X = T.take 20 := ⟨_, rfl⟩
      obtain ⟨T2, hT2⟩ : ∃ X, X = T.drop 20 := ⟨_, rfl⟩
      have l1 : T1.length = 20 := by rw [hT1, List.length_take]; omega
      have l2 : T2.length + 20 = T.length := by rw [hT2, List.length_drop]; omega
      rw [← hT1, ← hT2] at eT
      clear hT1 hT2
      rw [eT] at h3
      obtain ⟨p1, p2, p3⟩ := List.pairwise_append.1 h3
      obtain ⟨S, g1, g2, g3⟩ := ins_ev (p := p) O x2 Done T2 T1 p1 (by omega)
      have lS : S.length = 20 := by rw [g1.length_eq, l1]
      obtain ⟨c, Z, k1, k2, k3⟩ := ih T2 (Done ++ S) (by omega) (by rw [List.length_append]; omega) p2
      rw [l1, show Done ++ T1 ++ T2 = Done ++ T by rw [eT]; simp] at g3
      refine ⟨c + 1, S ++ Z, ⟨S, T1, Z, T2, rfl, eT, lS, g1, g2, k1⟩, by rw [List.length_append]; omega, fun r h => Ev.succ ?_⟩
      have key := k3 r (by rw [List.append_assoc]; exact h)
      rw [List.length_append, lS] at key
      have e20 : wrap64 (((Done.length + 20 : Nat) : Int) + 20) = ((Done.length + 20 + 20 : Nat) : Int) := by rw [wrap_id (x := ((Done.length + 20 : Nat) : Int) + 20) (by omega) (by omega)]; omega
      simp only [slices_stableCmpFunc_string.l0, le_iff' (show Done.length + 20 ≤ n by omega), if_true, e20]
      exact Ev.bind g3 key
    · obtain ⟨S, g1, g2, g3⟩ := ins_ev (p := p) O x2 Done [] T h3 (by rw [List.length_nil]; omega)
      rw [List.append_nil, List.append_nil, ← h2] at g3
      refine ⟨0, S, ⟨by rw [g1.length_eq]; omega, g1, g2⟩, g1.length_eq, fun r h => Ev.succ ?_⟩
      simp only [slices_stableCmpFunc_string.l0, le_iff'' (show n < Done.length + 20 by omega), if_false]
      exact Ev.bind g3 h
theorem stable_ev (O : OrdS R) (x2 : Int) (D : List ByteArray) (hn : D.length ≤ 1048576) (hD : D.Pairwise (Qs p R)) : ∃ S, Ev (fun k => slices_SortStableFunc_string.f p k D x2) S ∧ S.Perm D ∧ S.Pairwise R := by
  obtain ⟨c, Z, k1, k2, k3⟩ := first_ev (p := p) O x2 D.length hn D.length D [] (Nat.le_refl _) (by rw [List.length_nil, Nat.zero_add]) hD
  obtain ⟨S, g1, g2, g3⟩ := passes_ev (p := p) O x2 D.length hn D hD D.length 20 c Z (by omega) (by omega) k2 k1
  refine ⟨S, ?_, g2, g3⟩
  unfold slices_SortStableFunc_string.f slices_stableCmpFunc_string.f
  have key := k3 S g1
  exact Ev.bind key (Ev.now _)
theorem ltL_trans {a b c : List UInt8} (h : a < b) (h2 : b < c) : a < c := List.lt_trans h h2
theorem ltL_irrefl (a : List UInt8) : ¬ a < a := List.lt_irrefl a
theorem leL_or {a b : List UInt8} (h : a ≤ b) : a < b ∨ a = b := by
  have h1 := Go.Proofs.YtcpkobahiciadaaW.GStr.less_total a b
  rw [Go.Proofs.bytesLess_eq, Go.Proofs.bytesLess_eq] at h1
  have hb : ¬ b < a := List.not_lt.2 h
  rw [decide_eq_false hb] at h1
  simpa using h1
theorem leL_trans {a b c : List UInt8} (h : a ≤ b) (h2 : b ≤ c) : a ≤ c := List.le_trans h h2
theorem leL_total (a b : List UInt8) : a ≤ b ∨ b ≤ a := List.le_total a b
theorem compactUpTo_facts (d : Array (List UInt8)) (hs : ∀ i j, i < j → j < d.size → d[i]! ≤ d[j]!) : ∀ m, m ≤ d.size → (Lib.compactUpTo d m).Pairwise (· < ·) ∧ ∀ x, x ∈ Lib.compactUpTo d m ↔ ∃ i, i < m ∧ d[i]! = x := by
  intro m
  induction m with
  | zero => intro _; exact ⟨by simp [Lib.compactUpTo], fun x => by simp [Lib.compactUpTo]⟩
  | succ m ih =>
    intro hm
    obtain ⟨h1, h2⟩ := ih (by omega)
    rw [Lib.compactUpTo_succ]
    rcases Bool.eq_false_or_eq_true (Lib.keeps d m) with hk | hk
    · rw [if_pos hk]
      have hlt : ∀ x, x ∈ Lib.compactUpTo d m → x < d[m]! := by
        intro x hx
        obtain ⟨i, hi, rfl⟩ := (h2 x).1 hx
        have hne : d[m]! ≠ d[m - 1]! := by
          have := of_decide_eq_true hk
          exact this.resolve_left (by omega)
        have h3 : d[m - 1]! < d[m]! := (leL_or (hs (m - 1) m (by omega) (by omega))).resolve_right (fun e => hne e.symm)
        by_cases he : i = m - 1
        · rw [he]; exact h3
        · rcases leL_or (hs i (m - 1) (by omega) (by omega)) with h4 | h4
          · exact ltL_trans h4 h3
          · rw [h4]; exact h3
      refine ⟨List.pairwise_append.2 ⟨h1, List.pairwise_singleton _ _, fun a ha b hb => ?_⟩, fun x => ?_⟩
      · rw [List.mem_singleton.1 hb]; exact hlt a ha
      · rw [List.mem_append, h2, List.mem_singleton]
        constructor
        · rintro (⟨i, hi, e⟩ | e)
          · exact ⟨i, by omega, e⟩
          · exact ⟨m, by omega, e.symm⟩
        · rintro ⟨i, hi, e⟩
          by_cases he : i = m
          · exact .inr (by rw [← e, he])
          · exact .inl ⟨i, by omega, e⟩
    · rw [hk]
      simp only [Bool.false_eq_true, if_false, List.append_nil]
      refine ⟨h1, fun x => ?_⟩
      rw [h2]
      have hne := of_decide_eq_false hk
      have hm0 : m ≠ 0 := fun e => hne (.inl e)
      have he : d[m]! = d[m - 1]! := Classical.byContradiction fun e => hne (.inr e)
      constructor
      · rintro ⟨i, hi, e⟩; exact ⟨i, by omega, e⟩
      · rintro ⟨i, hi, e⟩
        by_cases h5 : i = m
        · exact ⟨m - 1, by omega, by rw [← e, h5, he]⟩
        · exact ⟨i, by omega, e⟩
theorem distinct_facts (u : List (List UInt8)) : (Lib.compact (u.mergeSort fun x y => decide (x ≤ y))).Pairwise (· < ·) ∧ ∀ x, x ∈ Lib.compact (u.mergeSort fun x y => decide (x ≤ y)) ↔ x ∈ u := by
  have hp : (u.mergeSort fun x y => decide (x ≤ y)).Perm u := List.mergeSort_perm _ _
  have hs : (u.mergeSort fun x y => decide (x ≤ y)).Pairwise (fun x y => decide (x ≤ y) = true) := List.pairwise_mergeSort (by intro a b c h1 h2; exact decide_eq_true (leL_trans (of_decide_eq_true h1) (of_decide_eq_true h2))) (by intro a b; rcases leL_total a b with h | h <;> simp [h]) u
  generalize (u.mergeSort fun x y => decide (x ≤ y)) = z at *
  have hg := List.pairwise_iff_getElem.1 hs
  have := compactUpTo_facts z.toArray (by
    intro i j hij hj
    have hj' : j < z.length := by simpa using hj
    have := hg i j (by omega) hj' hij
    simpa [getElem!_pos, hj', show i < z.length by omega] using this) z.length (by simp)
  refine ⟨this.1, fun x => ?_⟩
  rw [← hp.mem_iff]
  refine (this.2 x).trans ?_
  rw [List.mem_iff_getElem]
  constructor
  · rintro ⟨i, hi, e⟩
    exact ⟨i, hi, by simpa [getElem!_pos, hi] using e⟩
  · rintro ⟨i, hi, e⟩
    exact ⟨i, hi, by simpa [getElem!_pos, hi] using e⟩
theorem rdSx (l : List ByteArray) (j : Nat) : rdOf ByteArray.empty l (j : Int) = l.getD j ByteArray.empty := by simp [rdOf]
theorem toStringS_ev (l : List ByteArray) (hl : l.length * 16 ≤ 140737488351232) : Ev (fun k => laws_toStringS.f k l) l := by
  unfold laws_toStringS.f
  simp only [nat_nonneg, if_true, Int.toNat_natCast, show (l.length ≤ 17592186044416) = True from eq_true (by omega)]
  have key := Ev.copy (fun x : ByteArray => x) l ByteArray.empty (⟨#[]⟩ : ByteArray) (fun k s j => laws_toStringS.l0 k l s j)
    (by
      intro j s r hj hs h
      refine Ev.succ ?_
      have h1 : ((j : Int) < (l.length : Int)) = True := eq_true (by omega)
      simp only [laws_toStringS.l0, h1, if_true, nat_nonneg, hs, Int.toNat_natCast, wrap_succ (show j < 4611686018427387904 by omega), rdSx]
      exact h)
    (by
      intro s hs
      refine Ev.succ ?_
      simp only [laws_toStringS.l0, Int.lt_irrefl, if_false]
      exact Ev.now _)
  simpa using key
theorem szStringS_ev (l : List ByteArray) (hl : l.length * 16 ≤ 140737488351232) (hz : ∀ y, y ∈ l → y.size ≤ 140737488351232) : ∃ r, (0 ≤ r → l.length ≤ 1048576) ∧ Ev (fun k => laws_szStringS.f k l 1048576) r := by
  unfold laws_szStringS.f
  rw [wrap_id (x := 1048576 - (l.length : Int)) (by omega) (by omega)]
  by_cases h0 : (1048576 : Int) - l.length < 0
  · refine ⟨-1, fun h => absurd h (by decide), ?_⟩
    simp only [eq_true h0, if_true]
    exact Ev.now _
  · obtain ⟨r, _, hr⟩ := Ev.sz (L := fun k j a => laws_szStringS.l0 k l a (j : Int)) (n := l.length)
      (by
        intro j a hj ha0 ha1
        have h1 : ((j : Int) < (l.length : Int)) = True := eq_true (by omega)
        have hs := hz (l.getD j ByteArray.empty) (by rw [List.getD_eq_getElem?_getD, List.getElem?_eq_getElem hj]; exact List.getElem_mem hj)
        by_cases hc : a - ((l.getD j ByteArray.empty).size : Int) < 0
        · refine .inr (Ev.succ ?_)
          simp only [laws_szStringS.l0, h1, if_true, nat_nonneg, rdSx, wrap_id (x := a - ((l.getD j ByteArray.empty).size : Int)) (by omega) (by omega), eq_true hc]
          exact Ev.now _
        · refine .inl ⟨a - ((l.getD j ByteArray.empty).size : Int), by omega, by omega, fun r h => Ev.succ ?_⟩
          simp only [laws_szStringS.l0, h1, if_true, nat_nonneg, rdSx, wrap_id (x := a - ((l.getD j ByteArray.empty).size : Int)) (by omega) (by omega), eq_false hc, if_false, wrap_succ (show j < 4611686018427387904 by omega)]
          exact h)
      (by
        intro a _ _
        refine Ev.succ ?_
        simp only [laws_szStringS.l0, Int.lt_irrefl, if_false]
        exact Ev.now _)
      0 (Nat.zero_le _) (1048576 - (l.length : Int)) (by omega) (by omega)
    refine ⟨r, fun _ => by omega, ?_⟩
    simp only [eq_false h0, if_false]
    exact hr
theorem eqStringS_ev (l : List ByteArray) (hl : l.length < 4611686018427387904) : Ev (fun k => laws_eqStringS.f k l l) true := by
  unfold laws_eqStringS.f
  simp only [if_true]
  exact Ev.upto (L := fun k j => laws_eqStringS.l0 k l l (j : Int)) (r := true) (n := l.length)
    (by
      refine Ev.succ ?_
      simp only [laws_eqStringS.l0, Int.lt_irrefl, if_false]
      exact Ev.now _)
    (by
      intro j hj h
      refine Ev.succ ?_
      have h1 : ((j : Int) < (l.length : Int)) = True := eq_true (by omega)
      simp only [laws_eqStringS.l0, h1, if_true, nat_nonneg, wrap_succ (show j < 4611686018427387904 by omega)]
      exact h)
    0 (Nat.zero_le _)
def ky (b : ByteArray) : List UInt8 := b.data.toList
def upB (l : List ByteArray) : Prop := l.Pairwise (fun a b => ky a < ky b)
theorem ins_up (l : List ByteArray) (s : ByteArray) (j : Nat) (hu : upB l) (h1 : ∀ x, x ∈ l.take j → ky x < ky s) (h2 : ∀ x, x ∈ l.drop j → ky s < ky x) : upB (l.take j ++ [s] ++ l.drop j) := by
  unfold upB at *
  rw [List.pairwise_append, List.pairwise_append]
  refine ⟨⟨hu.sublist (List.take_sublist _ _), List.pairwise_singleton _ _, fun a ha b hb => by rw [List.mem_singleton.1 hb]; exact h1 a ha⟩, hu.sublist (List.drop_sublist _ _), fun a ha b hb => ?_⟩
  rcases List.mem_append.1 ha with h | h
  · exact ltL_trans (h1 a h) (h2 b hb)
  · rw [List.mem_singleton.1 h]; exact h2 b hb
theorem ins_mem (l : List ByteArray) (s : ByteArray) (j : Nat) (x : List UInt8) : x ∈ (l.take j ++ [s] ++ l.drop j).map ky ↔ x ∈ l.map ky ∨ x = ky s := by
  have e : x ∈ l.map ky ↔ x ∈ (l.take j).map ky ∨ x ∈ (l.drop j).map ky := by
    conv => lhs; rw [← List.take_append_drop j l]
    rw [List.map_append, List.mem_append]
  rw [e, List.map_append, List.map_append, List.mem_append, List.mem_append, List.map_cons, List.map_nil, List.mem_singleton]
  constructor
  · rintro ((h | h) | h)
    · exact .inl (.inl h)
    · exact .inr h
    · exact .inl (.inr h)
  · rintro ((h | h) | h)
    · exact .inl (.inl h)
    · exact .inr h
    · exact .inl (.inr h)
theorem ctPut_l0 (l : List ByteArray) (s : ByteArray) (hl : l.length < 1000000) (hu : upB l) : ∀ d j, j + d = l.length → (∀ x, x ∈ l.take j → ky x < ky s) →
    ∃ r, Ev (fun k => spec_ctPut.l0 k l s (j : Int)) r ∧ upB r ∧ (∀ x, x ∈ r.map ky ↔ x ∈ l.map ky ∨ x = ky s) ∧ r.length ≤ l.length + 1 := by
  intro d
  induction d with
  | zero =>
    intro j hj h1
    have hj' : j = l.length := by omega
    refine ⟨l.take j ++ [s] ++ l.drop j, Ev.succ ?_, ins_up l s j hu h1 (by rw [hj', List.drop_length]; intro x hx; cases hx), ins_mem l s j, by simp; omega⟩
    have g1 : ((j : Int) < (l.length : Int)) = False := eq_false (by omega)
    have g2 : ((j : Int) ≤ (l.length : Int)) = True := eq_true (by omega)
    have g3 : (([] : List ByteArray).length + (l.take j).length < 8796093022208) = True := eq_true (by simp; omega)
    have g4 : (([] ++ l.take j).length + [s].length < 8796093022208) = True := eq_true (by simp; omega)
    have g5 : (([] ++ l.take j ++ [s]).length + (l.drop j).length < 8796093022208) = True := eq_true (by simp; omega)
    simp only [spec_ctPut.l0, g1, g2, if_true, if_false, nat_nonneg, Option.bind_some, Int.toNat_natCast, g3, g4, g5]
    exact Ev.now _
  | succ d ih =>
    intro j hj h1
    have hlt : j < l.length := by omega
    have g1 : ((j : Int) < (l.length : Int)) = True := eq_true (by omega)
    have hg : l.getD j ByteArray.empty = l[j] := by rw [List.getD_eq_getElem?_getD, List.getElem?_eq_getElem hlt]; rfl
    have et : ∀ b : ByteArray, b.toList = ky b := ByteArray.toList_eq
    by_cases h2 : ky l[j] < ky s
    · obtain ⟨r, h3, h4⟩ := ih (j + 1) (by omega) (by
        intro x hx
        rw [List.take_succ_eq_append_getElem hlt] at hx
        rcases List.mem_append.1 hx with h | h
        · exact h1 x h
        · rw [List.mem_singleton.1 h]; exact h2)
      refine ⟨r, Ev.succ ?_, h4⟩
      simp only [spec_ctPut.l0, g1, if_true, nat_nonneg, rdSx, hg, et, bytesLess_eq, decide_eq_true h2, wrap_succ (show j < 4611686018427387904 by omega)]
      exact h3
    · by_cases h3 : ky l[j] = ky s
      · refine ⟨l, Ev.succ ?_, hu, fun x => ⟨fun h => .inl h, fun h => h.elim id (fun e => ?_)⟩, by omega⟩
        · simp only [spec_ctPut.l0, g1, if_true, nat_nonneg, rdSx, hg, et, bytesLess_eq, decide_eq_false h2, Bool.false_eq_true, if_false, eq_true h3]
          exact Ev.now _
        · rw [e, ← h3]; exact List.mem_map.2 ⟨_, List.getElem_mem hlt, rfl⟩
      · have h4 : ky s < ky l[j] := (leL_or (List.not_lt.1 h2)).resolve_right (fun e => h3 e.symm)
        refine ⟨l.take j ++ [s] ++ l.drop j, Ev.succ ?_, ins_up l s j hu h1 ?_, ins_mem l s j, by simp; omega⟩
        · have g2 : ((j : Int) ≤ (l.length : Int)) = True := eq_true (by omega)
          have g3 : (([] : List ByteArray).length + (l.take j).length < 8796093022208) = True := eq_true (by simp; omega)
          have g4 : (([] ++ l.take j).length + [s].length < 8796093022208) = True := eq_true (by simp; omega)
          have g5 : (([] ++ l.take j ++ [s]).length + (l.drop j).length < 8796093022208) = True := eq_true (by simp; omega)
          simp only [spec_ctPut.l0, g1, g2, if_true, nat_nonneg, rdSx, hg, et, bytesLess_eq, decide_eq_false h2, Bool.false_eq_true, if_false, eq_false h3, Option.bind_some, Int.toNat_natCast, g3, g4, g5]
          exact Ev.now _
        · intro x hx
          have hd : (l.drop j).Pairwise (fun a b => ky a < ky b) := hu.sublist (List.drop_sublist _ _)
          rw [List.drop_eq_getElem_cons hlt] at hx hd
          rcases List.mem_cons.1 hx with h | h
          · rw [h]; exact h4
          · exact ltL_trans h4 ((List.pairwise_cons.1 hd).1 x h)
theorem ctPut_ev (l : List ByteArray) (s : ByteArray) (hl : l.length < 1000000) (hu : upB l) : ∃ r, Ev (fun k => spec_ctPut.f k l s) r ∧ upB r ∧ (∀ x, x ∈ r.map ky ↔ x ∈ l.map ky ∨ x = ky s) ∧ r.length ≤ l.length + 1 := by
  unfold spec_ctPut.f
  exact ctPut_l0 l s hl hu l.length 0 (by omega) (by simp)
/-- How many different texts there are. -/
def dlen (u : List ByteArray) : Nat := (Lib.compact ((u.map ky).mergeSort fun x y => decide (x ≤ y))).length
theorem distinct_dlen (u : List ByteArray) (hl : u.length < 1000000) : ∃ r, impl_distinct_string.f u = some r ∧ r.length = dlen u := by
  unfold impl_distinct_string.f slices_Clone_string.f
  simp only [Option.bind_some, List.length_nil, Nat.zero_add, List.nil_append, eq_true (show u.length < 8796093022208 by omega), if_true]
  refine ⟨_, rfl, ?_⟩
  unfold impl_distinct_string.comp impl_distinct_string.sorted impl_distinct_string.un impl_distinct_string.tb dlen
  rw [List.length_map, List.map_map]
  congr 2
  exact List.map_id'' (fun x => by simp) _
theorem ky_inj {a b : ByteArray} (h : ky a = ky b) : a = b := by
  cases a; cases b
  unfold ky at h
  simp only at h
  congr 1
  exact Array.toList_inj.1 h
theorem up_unique {n m : List ByteArray} (hn : upB n) (hm : upB m) (h : ∀ x, x ∈ n.map ky ↔ x ∈ m.map ky) : n = m := by
  have hmem : ∀ x, x ∈ n ↔ x ∈ m := by
    intro x
    have key : ∀ l : List ByteArray, ky x ∈ l.map ky ↔ x ∈ l := fun l => ⟨fun hx => by
      obtain ⟨y, hy, e⟩ := List.mem_map.1 hx
      rw [← ky_inj e]; exact hy, fun hx => List.mem_map.2 ⟨x, hx, rfl⟩⟩
    rw [← key, ← key]
    exact h _
  have nd : ∀ {l : List ByteArray}, upB l → l.Nodup := fun {l} hl => List.Pairwise.imp (S := fun a b : ByteArray => a ≠ b) (fun {a b} hlt e => ltL_irrefl (ky b) (by rw [e] at hlt; exact hlt)) hl
  have hp := (List.perm_ext_iff_of_nodup (nd hn) (nd hm)).2 hmem
  exact List.Perm.eq_of_pairwise (le := fun a b => ky a < ky b) (fun a b _ _ h1 h2 => absurd (ltL_trans h1 h2) (ltL_irrefl _)) hn hm hp
theorem distinct_up (u : List ByteArray) (hl : u.length < 1000000) : ∃ r, impl_distinct_string.f u = some r ∧ upB r ∧ (∀ x, x ∈ r.map ky ↔ x ∈ u.map ky) ∧ r.length = dlen u := by
  obtain ⟨r0, h0, h00⟩ := distinct_dlen u hl
  refine ⟨r0, h0, ?_⟩
  have e : r0.map ky = Lib.compact ((u.map ky).mergeSort fun x y => decide (x ≤ y)) := by
    unfold impl_distinct_string.f slices_Clone_string.f at h0
    simp only [Option.bind_some, List.length_nil, Nat.zero_add, List.nil_append, eq_true (show u.length < 8796093022208 by omega), if_true] at h0
    have h1 := Option.some.inj h0
    rw [← h1]
    unfold impl_distinct_string.comp impl_distinct_string.sorted impl_distinct_string.un impl_distinct_string.tb
    rw [List.map_map, List.map_map]
    have e1 : ∀ l : List (List UInt8), l.map (ky ∘ fun b => (⟨b.toArray⟩ : ByteArray)) = l := fun l => List.map_id'' (fun x => by simp [ky]) l
    have e2 : ∀ l : List (List UInt8), l.map ((fun x : ByteArray => x.data.toList) ∘ fun b => (⟨b.toArray⟩ : ByteArray)) = l := fun l => List.map_id'' (fun x => by simp) l
    rw [e1, e2]
    rfl
  obtain ⟨h1, h2⟩ := distinct_facts (u.map ky)
  rw [← e] at h1 h2
  exact ⟨List.pairwise_map.1 h1, h2, h00⟩
def inB (a b c : Int) : Bool := decide (b ≤ a ∧ a ≤ c)
theorem l1In_eq (a b c : Int) : spec_l1In.f a b c = some (inB a b c) := by
  unfold spec_l1In.f inB
  split <;> simp <;> omega
theorem within_eq (a b c : Int) : impl_within.f a b c = some (inB a b c) := by
  unfold impl_within.f inB
  split <;> simp <;> omega
def capAt (s : ByteArray) (j : Nat) : Bool := decide (65 ≤ bt s j ∧ bt s j ≤ 90)
def glossB (s : ByteArray) : Bool := inB s.size 1 8 && (List.range s.size).all (capAt s)
def caps : ByteArray := ⟨#[65, 66, 67, 68, 69, 70, 71, 72, 73, 74, 75, 76, 77, 78, 79, 80, 81, 82, 83, 84, 85, 86, 87, 88, 89, 90]⟩
theorem caps_all : ((List.range 256).all fun n => decide (Lib.indexByte caps.data.toList n.toUInt8 < 0) == !(decide (65 ≤ n ∧ n ≤ 90))) = true := by decide +kernel
theorem caps_index (b : Int) (h0 : 0 ≤ b) (h1 : b ≤ 255) : (Lib.indexByte caps.data.toList b.toNat.toUInt8 < 0) ↔ ¬ (65 ≤ b ∧ b ≤ 90) := by
  have h := List.all_eq_true.1 caps_all b.toNat (List.mem_range.2 (by omega))
  simp only [beq_iff_eq] at h
  by_cases hc : 65 ≤ b ∧ b ≤ 90
  · have h2 : decide (65 ≤ b.toNat ∧ b.toNat ≤ 90) = true := decide_eq_true (by omega)
    rw [h2] at h
    exact ⟨fun h3 => absurd h3 (of_decide_eq_false h), fun h3 => absurd hc h3⟩
  · have h2 : decide (65 ≤ b.toNat ∧ b.toNat ≤ 90) = false := decide_eq_false (by omega)
    rw [h2] at h
    exact ⟨fun _ => hc, fun _ => of_decide_eq_true h⟩
theorem hasOnly_ev (s : ByteArray) (hs : s.size < 4611686018427387904) : Ev (fun k => impl_hasOnly.f k s caps) ((List.range s.size).all (capAt s)) := by
  unfold impl_hasOnly.f
  refine Ev.eq (Ev.all0 (L := fun k j => impl_hasOnly.l0 k s caps (s.size : Int) (j : Int)) (P := capAt s) (n := s.size) (a := true) (b := false) ?_ ?_ ?_) (by split <;> simp_all)
  · refine Ev.succ ?_
    simp only [impl_hasOnly.l0, Int.lt_irrefl, if_false]
    exact Ev.now _
  · intro j r hj hP h
    refine Ev.succ ?_
    have h1 : ((j : Int) < (s.size : Int)) = True := eq_true (by omega)
    have hb := bt_range s (j : Int)
    have h2 : (Lib.indexByte caps.data.toList (bt s (j : Int)).toNat.toUInt8 < 0) = False := eq_false (fun hc => (caps_index _ hb.1 hb.2).1 hc (of_decide_eq_true hP))
    simp only [impl_hasOnly.l0, strings_IndexByte.f, Option.bind_some, h1, if_true, nat_nonneg, h2, if_false, wrap_succ (show j < 4611686018427387904 by omega)]
    exact h
  · intro j hj hP
    refine Ev.succ ?_
    have h1 : ((j : Int) < (s.size : Int)) = True := eq_true (by omega)
    have hb := bt_range s (j : Int)
    have h2 : (Lib.indexByte caps.data.toList (bt s (j : Int)).toNat.toUInt8 < 0) = True := eq_true ((caps_index _ hb.1 hb.2).2 (of_decide_eq_false hP))
    simp only [impl_hasOnly.l0, strings_IndexByte.f, Option.bind_some, h1, if_true, nat_nonneg, h2]
    exact Ev.now _
theorem isGloss_ev (s : ByteArray) (hs : s.size < 4611686018427387904) : Ev (fun k => impl_IsGloss.f k s) (glossB s) := by
  unfold impl_IsGloss.f impl_isWordOf.f glossB
  refine Ev.bind (a := inB s.size 1 8 && (List.range s.size).all (capAt s)) ?_ (Ev.now _)
  simp only [within_eq, Option.bind_some]
  rcases Bool.eq_false_or_eq_true (inB s.size 1 8) with h | h
  · simp only [h, if_true, Bool.true_and]
    exact Ev.bind (hasOnly_ev s hs) (Ev.now _)
  · simp only [h]
    exact Ev.now _
theorem enGloss_ev (s : ByteArray) (hs : s.size < 4611686018427387904) : Ev (fun k => spec_enGloss.f k s) (glossB s) := by
  unfold spec_enGloss.f
  refine Ev.eq (Ev.all0 (L := fun k j => spec_enGloss.l0 k s (j : Int)) (P := capAt s) (n := s.size) (a := inB s.size 1 8) (b := false) ?_ ?_ ?_) (by unfold glossB; split <;> simp_all)
  · refine Ev.succ ?_
    simp only [spec_enGloss.l0, Int.lt_irrefl, if_false, l1In_eq, Option.bind_some]
    exact Ev.now _
  · intro j r hj hP h
    refine Ev.succ ?_
    have h1 : ((j : Int) < (s.size : Int)) = True := eq_true (by omega)
    have hP' := of_decide_eq_true hP
    simp only [spec_enGloss.l0, h1, if_true, nat_nonneg, show (bt s (j : Int) < 65) = False from eq_false (by omega), show (bt s (j : Int) > 90) = False from eq_false (by omega), if_false, wrap_succ (show j < 4611686018427387904 by omega)]
    exact h
  · intro j hj hP
    refine Ev.succ ?_
    have h1 : ((j : Int) < (s.size : Int)) = True := eq_true (by omega)
    have hP' := of_decide_eq_false hP
    simp only [spec_enGloss.l0, h1, if_true, nat_nonneg]
    by_cases h2 : bt s (j : Int) < 65
    · simp only [eq_true h2, if_true]
      exact Ev.now _
    · simp only [eq_false h2, if_false, show (bt s (j : Int) > 90) = True from eq_true (by omega), if_true]
      exact Ev.now _
def tokB (l : List ByteArray) : Bool := decide (l.length ≤ 120) && l.all glossB
theorem tokB_len {l : List ByteArray} (h : tokB l = true) : l.length ≤ 120 := by
  unfold tokB at h
  rw [Bool.and_eq_true] at h
  exact of_decide_eq_true h.1
/-- Every text is short enough. -/
def TSz (l : List ByteArray) : Prop := ∀ y, y ∈ l → y.size ≤ 140737488351232
theorem tokAll_ev : ∀ l : List ByteArray, TSz l → Ev (fun k => impl_areTokens.all k l) (l.all glossB)
  | [], _ => Ev.now _
  | s :: l, hz => by
    unfold impl_areTokens.all
    have hs := hz s (List.mem_cons_self ..)
    refine Ev.bind (isGloss_ev s (by omega)) ?_
    refine Ev.bind (tokAll_ev l (fun y hy => hz y (List.mem_cons_of_mem _ hy))) ?_
    rw [List.all_cons]
    exact Ev.now _
theorem areTokens_ev (l : List ByteArray) (hz : TSz l) : Ev (fun k => impl_areTokens.f k l) (tokB l) := by
  unfold impl_areTokens.f tokB
  by_cases h : l.length ≤ 120
  · have h1 : ((l.length : Int) ≤ 120) = True := eq_true (by omega)
    simp only [h1, if_true, h, decide_true, Bool.true_and]
    exact tokAll_ev l hz
  · have h1 : ((l.length : Int) ≤ 120) = False := eq_false (by omega)
    simp only [h1, if_false, h, decide_false, Bool.false_and]
    exact Ev.now _
theorem all_range (l : List ByteArray) (p : ByteArray → Bool) : ((List.range l.length).all fun i => p (l.getD i ByteArray.empty)) = l.all p := by
  rw [Bool.eq_iff_iff, List.all_eq_true, List.all_eq_true]
  constructor
  · intro h x hx
    obtain ⟨i, hi, rfl⟩ := List.getElem_of_mem hx
    have := h i (List.mem_range.2 hi)
    simpa [List.getD_eq_getElem?_getD, List.getElem?_eq_getElem hi] using this
  · intro h i hi
    have hi' := List.mem_range.1 hi
    have := h l[i] (List.getElem_mem hi')
    simpa [List.getD_eq_getElem?_getD, List.getElem?_eq_getElem hi'] using this
theorem ctGood_ev (l : List ByteArray) (hl : l.length < 4611686018427387904) (hz : TSz l) : Ev (fun k => spec_ctGood.f k l) (tokB l) := by
  unfold spec_ctGood.f
  have hg : ∀ j, j < l.length → (l.getD j ByteArray.empty).size < 4611686018427387904 := by
    intro j hj
    have := hz (l.getD j ByteArray.empty) (by rw [List.getD_eq_getElem?_getD, List.getElem?_eq_getElem hj]; exact List.getElem_mem hj)
    omega
  have key := Ev.all0 (L := fun k j => spec_ctGood.l0 k l l (l.length : Int) (j : Int)) (P := fun i => glossB (l.getD i ByteArray.empty)) (n := l.length) (a := decide (l.length ≤ 120)) (b := false)
    (by
      refine Ev.succ ?_
      simp only [spec_ctGood.l0, Int.lt_irrefl, if_false]
      refine Ev.eq (Ev.now _) ?_
      rw [decide_eq_decide]
      omega)
    (by
      intro j r hj hP h
      refine Ev.succ ?_
      have h1 : ((j : Int) < (l.length : Int)) = True := eq_true (by omega)
      simp only [spec_ctGood.l0, h1, if_true, nat_nonneg, rdSx, wrap_succ (show j < 4611686018427387904 by omega)]
      refine Ev.bind (enGloss_ev _ (hg j hj)) ?_
      simp only [hP, if_true]
      exact h)
    (by
      intro j hj hP
      refine Ev.succ ?_
      have h1 : ((j : Int) < (l.length : Int)) = True := eq_true (by omega)
      simp only [spec_ctGood.l0, h1, if_true, nat_nonneg, rdSx]
      refine Ev.bind (enGloss_ev _ (hg j hj)) ?_
      simp only [hP]
      exact Ev.now _)
  refine Ev.eq key ?_
  rw [all_range]
  unfold tokB
  cases l.all glossB <;> simp
def hit (g s : ByteArray) : Bool := decide (s.toList = g.toList)
/-- The places of g, from j on, of d tokens. -/
def plcs (l : List ByteArray) (g : ByteArray) : Nat → Nat → List Int → List Int
  | 0, _, c => c
  | d + 1, j, c => plcs l g d (j + 1) (if hit g (l.getD j ByteArray.empty) then c ++ [(j : Int)] else c)
theorem plcs_at (l : List ByteArray) (g : ByteArray) : ∀ d j c, impl_placesOf.at (hit g) l d j c = plcs l g d j c
  | 0, _, _ => rfl
  | d + 1, j, c => plcs_at l g d (j + 1) (if hit g (l.getD j ByteArray.empty) then c ++ [(j : Int)] else c)
theorem placesOf_eq (l : List ByteArray) (g : ByteArray) (hl : l.length < 17592186044416) : impl_placesOf.f l g = some (plcs l g l.length 0 []) := by
  unfold impl_placesOf.f
  rw [if_pos hl]
  exact congrArg some (plcs_at l g l.length 0 [])
theorem plcs_succ (l : List ByteArray) (g : ByteArray) (d j : Nat) (c : List Int) : plcs l g (d + 1) j c = plcs l g d (j + 1) (if hit g (l.getD j ByteArray.empty) then c ++ [(j : Int)] else c) := rfl
theorem ctCount_l0 (l : List ByteArray) (g : ByteArray) (hl : l.length < 4611686018427387904) : ∀ d j (c : List Int), j + d = l.length → c.length ≤ j → Ev (fun k => spec_ctCount.l0 k g (c.length : Int) l (l.length : Int) (j : Int)) ((plcs l g d j c).length : Int) := by
  intro d
  induction d with
  | zero =>
    intro j c hj _
    refine Ev.succ ?_
    have h1 : ((j : Int) < (l.length : Int)) = False := eq_false (by omega)
    simp only [spec_ctCount.l0, h1, if_false]
    exact Ev.now _
  | succ d ih =>
    intro j c hj hc
    refine Ev.succ ?_
    have h1 : ((j : Int) < (l.length : Int)) = True := eq_true (by omega)
    simp only [spec_ctCount.l0, h1, if_true, nat_nonneg, rdSx, wrap_succ (show j < 4611686018427387904 by omega), wrap_succ (show c.length < 4611686018427387904 by omega)]
    rw [plcs_succ]
    by_cases h : (l.getD j ByteArray.empty).toList = g.toList
    · have hh : hit g (l.getD j ByteArray.empty) = true := decide_eq_true h
      rw [if_pos hh]
      simp only [eq_true h, if_true]
      have := ih (j + 1) (c ++ [(j : Int)]) (by omega) (by simp; omega)
      rw [List.length_append, List.length_singleton] at this
      exact this
    · have hh : hit g (l.getD j ByteArray.empty) = false := decide_eq_false h
      rw [if_neg (by rw [hh]; decide)]
      simp only [eq_false h, if_false]
      exact ih (j + 1) c (by omega) (by omega)
theorem ctCount_ev (l : List ByteArray) (g : ByteArray) (hl : l.length < 4611686018427387904) : Ev (fun k => spec_ctCount.f k l g) ((plcs l g l.length 0 []).length : Int) := by
  unfold spec_ctCount.f
  exact ctCount_l0 l g hl l.length 0 [] (by omega) (by simp)
def cn (l : List ByteArray) (g : ByteArray) : Int := impl_ranked.cnt l g
theorem hit_eq (g s : ByteArray) : hit g s = decide (s.data.toList = g.data.toList) := by unfold hit; rw [ByteArray.toList_eq, ByteArray.toList_eq]
theorem plcs_cnt (l : List ByteArray) (g : ByteArray) : ∀ d j c, j + d = l.length → (plcs l g d j c).length = c.length + ((l.drop j).filter (hit g)).length := by
  intro d
  induction d with
  | zero => intro j c h; rw [List.drop_of_length_le (by omega)]; rfl
  | succ d ih =>
    intro j c h
    have hlt : j < l.length := by omega
    have hg : l.getD j ByteArray.empty = l[j] := by rw [List.getD_eq_getElem?_getD, List.getElem?_eq_getElem hlt]; rfl
    rw [plcs_succ, hg, List.drop_eq_getElem_cons hlt]
    by_cases hh : hit g l[j] = true
    · rw [if_pos hh, ih (j + 1) _ (by omega), List.filter_cons_of_pos hh, List.length_append, List.length_singleton, List.length_cons]; omega
    · rw [if_neg hh, ih (j + 1) _ (by omega), List.filter_cons_of_neg hh]
theorem cn_plcs (l : List ByteArray) (g : ByteArray) : ((plcs l g l.length 0 []).length : Int) = cn l g := by
  rw [plcs_cnt l g l.length 0 [] (by omega), List.drop_zero, List.length_nil, Nat.zero_add]
  unfold cn impl_ranked.cnt
  congr 2
  exact List.filter_congr fun s _ => hit_eq g s
theorem cn_bounds (l : List ByteArray) (g : ByteArray) : 0 ≤ cn l g ∧ cn l g ≤ l.length := by
  unfold cn impl_ranked.cnt
  have := List.length_filter_le (fun s : ByteArray => decide (s.data.toList = g.data.toList)) l
  omega
/-- Before, by rank. -/
def Rk (l : List ByteArray) (a b : ByteArray) : Prop := cn l b < cn l a ∨ (cn l a = cn l b ∧ ky a < ky b)
theorem rk_ord (l : List ByteArray) : OrdS (Rk l) where
  tr := by
    rintro a b c (h | ⟨h, h2⟩) (k | ⟨k, k2⟩)
    · exact .inl (by omega)
    · exact .inl (by omega)
    · exact .inl (by omega)
    · exact .inr ⟨by omega, ltL_trans h2 k2⟩
  asy := by
    rintro a b (h | ⟨h, h2⟩) (k | ⟨k, k2⟩)
    · omega
    · omega
    · omega
    · exact ltL_irrefl _ (ltL_trans h2 k2)
theorem rk_unique {l S T : List ByteArray} (hS : S.Pairwise (Rk l)) (hT : T.Pairwise (Rk l)) (hp : S.Perm T) : S = T :=
  List.Perm.eq_of_pairwise (le := Rk l) (fun a b _ _ h1 h2 => ((rk_ord l).asy _ _ h1 h2).elim) hS hT hp
theorem gloss_size {s : ByteArray} (h : glossB s = true) : s.size ≤ 8 := by
  unfold glossB at h
  rw [Bool.and_eq_true] at h
  have := of_decide_eq_true h.1
  omega
theorem tok_size {l : List ByteArray} (h : tokB l = true) : ∀ s, s ∈ l → s.size ≤ 8 := by
  unfold tokB at h
  rw [Bool.and_eq_true] at h
  exact fun s hs => gloss_size (List.all_eq_true.1 h.2 s hs)
theorem ky_mem {l : List ByteArray} {x : ByteArray} : ky x ∈ l.map ky ↔ x ∈ l := ⟨fun hx => by
  obtain ⟨y, hy, e⟩ := List.mem_map.1 hx
  rw [← ky_inj e]; exact hy, fun hx => List.mem_map.2 ⟨x, hx, rfl⟩⟩
theorem ranked_ev (l D : List ByteArray) (h : tokB l = true) (hD : impl_distinct_string.f l = some D) (hu : upB D) (hm : ∀ x, x ∈ D.map ky ↔ x ∈ l.map ky) (hDl : D.length ≤ 1048576) :
    ∃ S, Ev (fun k => impl_ranked.f k l) S ∧ S.Perm D ∧ S.Pairwise (Rk l) := by
  have hsz := tok_size h
  have hszD : ∀ s, s ∈ D → s.size ≤ 8 := fun s hs => hsz s (ky_mem.1 ((hm _).1 (ky_mem.2 hs)))
  have hQ : D.Pairwise (Qs (impl_ranked.cmp l) (Rk l)) := by
    have h1 : D.Pairwise (fun a b => (a ∈ D ∧ b ∈ D) ∧ ky a < ky b) := by
      have hu' : D.Pairwise (fun a b => ky a < ky b) := hu
      rw [List.pairwise_iff_forall_sublist] at hu' ⊢
      intro a b hab
      have := hab.subset
      exact ⟨⟨this (by simp), this (by simp)⟩, hu' hab⟩
    refine h1.imp ?_
    rintro x y ⟨⟨hx, hy⟩, hlt⟩
    have hbx := cn_bounds l x
    have hby := cn_bounds l y
    have h120 := tokB_len h
    refine ⟨wrap64 (cn l x - cn l y), ?_, fun hv => ?_, fun hv => ?_⟩
    · unfold impl_ranked.cmp
      rw [if_pos (Nat.le_trans (hszD y hy) (by decide)), if_pos (Nat.le_trans (hszD x hx) (by decide))]
      rfl
    · rw [wrap_id (x := cn l x - cn l y) (by omega) (by omega)] at hv
      exact .inl (by omega)
    · rw [wrap_id (x := cn l x - cn l y) (by omega) (by omega)] at hv
      by_cases he : cn l x = cn l y
      · exact .inr ⟨he, hlt⟩
      · exact .inl (by omega)
  obtain ⟨S, g1, g2, g3⟩ := stable_ev (rk_ord l) 0 D hDl hQ
  refine ⟨S, ?_, g2, g3⟩
  have hall : (l.all fun s => decide (s.size ≤ 1048576)) = true := List.all_eq_true.2 fun s hs => decide_eq_true (Nat.le_trans (hsz s hs) (by decide))
  unfold impl_ranked.f
  simp only [show (l.length ≤ 1048576) = True from eq_true (by have := tokB_len h; omega), if_true, hall, hD, Option.bind_some]
  exact g1
/-! the reference -/
theorem ctCountN (l : List ByteArray) (g : ByteArray) (hl : l.length ≤ 120) : Ev (fun k => spec_ctCount.f k l g) (cn l g) := by
  have := ctCount_ev l g (by omega)
  rwa [cn_plcs] at this
theorem ct_l2 (l N : List ByteArray) (s : ByteArray) (i : Nat) (hl : l.length ≤ 120) (hi : i ≤ 1000) : ∀ (n : Nat) (O1 O2 : List ByteArray), O1.length = n → O1.length + O2.length ≤ 1000 → (O1 ++ O2).Pairwise (Rk l) → (∀ o, o ∈ O1 → ky o < ky s) → (∀ o, o ∈ O2 → Rk l s o) →
    ∃ out, out.Perm (s :: (O1 ++ O2)) ∧ out.Pairwise (Rk l) ∧ ∀ r, Ev (fun k => spec_ctRanked.l1 k l N out (N.length : Int) ((i + 1 : Nat) : Int)) r → Ev (fun k => spec_ctRanked.l2 k l N (O1 ++ O2) s (O1.length : Int) (N.length : Int) (i : Int)) r := by
  intro n
  induction n with
  | zero =>
    intro O1 O2 hn hlen hp h1 h2
    obtain rfl := List.eq_nil_of_length_eq_zero hn
    rw [List.length_nil, Nat.zero_add] at hlen
    refine ⟨s :: O2, List.Perm.refl _, List.pairwise_cons.2 ⟨h2, hp⟩, fun r h => Ev.succ ?_⟩
    have g1 : (([] : List ByteArray).length + ([] : List ByteArray).length < 8796093022208) = True := eq_true (by decide)
    have g2 : (([] ++ [] : List ByteArray).length + [s].length < 8796093022208) = True := eq_true (by simp)
    have g3 : (([] ++ [] ++ [s] : List ByteArray).length + O2.length < 8796093022208) = True := eq_true (by simp; omega)
    simp only [spec_ctRanked.l2, List.length_nil, show (((0 : Nat) : Int) > 0) = False from eq_false (by omega), if_false, Option.bind_some, nat_nonneg, if_true, show (((0 : Nat) : Int) ≤ ((([] : List ByteArray) ++ O2).length : Int)) = True from eq_true (by omega), Int.toNat_natCast, List.take_zero, List.drop_zero, List.nil_append, show ((0 : Nat) + [s].length < 8796093022208) = True from eq_true (by simp), show ((0 : Nat) + 0 < 8796093022208) = True from eq_true (by decide), show ([s].length + O2.length < 8796093022208) = True from eq_true (by simp; omega), wrap_succ (show i < 4611686018427387904 by omega)]
    exact h
  | succ n ih =>
    intro O1 O2 hn hlen hp h1 h2
    obtain ⟨S0, o, rfl⟩ : ∃ S' s, O1 = S' ++ [s] := ⟨O1.dropLast, O1.getLast (by intro h; rw [h] at hn; simp at hn), (List.dropLast_concat_getLast _).symm⟩
    have ho := h1 o (List.mem_append_right _ (List.mem_singleton.2 rfl))
    have e0 : (S0 ++ [o]).length = S0.length + 1 := by rw [List.length_append, List.length_singleton]
    rw [e0] at hlen
    have hr : rdOf ByteArray.empty (S0 ++ [o] ++ O2) (S0.length : Int) = o := by rw [show S0 ++ [o] ++ O2 = S0 ++ o :: O2 by simp]; exact rdAt rfl
    have ll : (S0 ++ [o] ++ O2).length = S0.length + 1 + O2.length := by rw [List.length_append, e0]
    have LL := Aside0.mk ll
    have E0 := Aside0.mk e0
    clear ll e0
    have c1 := ctCountN l o hl
    have c2 := ctCountN l s hl
    have hpos : (((S0.length + 1 : Nat) : Int) > 0) = True := eq_true (by omega)
    have hpre : wrap64 (((S0.length + 1 : Nat) : Int) - 1) = (S0.length : Int) := by rw [wrap_pred (by omega) (by omega), Nat.add_sub_cancel]
    have hlt : ((S0.length : Int) < ((S0.length + 1 + O2.length : Nat) : Int)) = True := eq_true (by omega)
    by_cases hc : cn l o < cn l s
    · obtain ⟨out, g1, g2, g3⟩ := ih S0 (o :: O2) (by rw [E0.out] at hn; omega) (by rw [List.length_cons]; omega) (by rw [show S0 ++ o :: O2 = S0 ++ [o] ++ O2 by simp]; exact hp) (fun z hz => h1 z (List.mem_append_left _ hz)) (fun z hz => by
        rcases List.mem_cons.1 hz with rfl | hz
        · exact .inl hc
        · exact h2 z hz)
      rw [show S0 ++ o :: O2 = S0 ++ [o] ++ O2 by simp] at g1 g3
      refine ⟨out, g1, g2, fun r h => Ev.succ ?_⟩
      rw [E0.out]
      simp only [spec_ctRanked.l2, hpos, if_true, hpre, nat_nonneg, LL.out, hlt, hr]
      refine Ev.bind c1 ?_
      refine Ev.bind c2 ?_
      simp only [eq_true hc, if_true]
      exact g3 r h
    · have hos : Rk l o s := by
        by_cases he : cn l o = cn l s
        · exact .inr ⟨he, ho⟩
        · exact .inl (by omega)
      obtain ⟨p1, p2, p3⟩ := List.pairwise_append.1 hp
      obtain ⟨p4, _, p5⟩ := List.pairwise_append.1 p1
      refine ⟨(S0 ++ [o]) ++ s :: O2, List.perm_middle, List.pairwise_append.2 ⟨p1, List.pairwise_cons.2 ⟨h2, p2⟩, fun z hz w hw => ?_⟩, fun r h => Ev.succ ?_⟩
      · rcases List.mem_cons.1 hw with rfl | hw
        · rcases List.mem_append.1 hz with hz | hz
          · exact (rk_ord l).tr _ _ _ (p5 z hz o (List.mem_singleton.2 rfl)) hos
          · rw [List.mem_singleton.1 hz]; exact hos
        · exact p3 z hz w hw
      · rw [E0.out]
        have ht : (S0 ++ [o] ++ O2).take (S0.length + 1) = S0 ++ [o] := by rw [← E0.out, List.take_left']; rfl
        have hd : (S0 ++ [o] ++ O2).drop (S0.length + 1) = O2 := by rw [← E0.out, List.drop_left']; rfl
        have k1 : (((S0.length + 1 : Nat) : Int) ≤ ((S0.length + 1 + O2.length : Nat) : Int)) = True := eq_true (by omega)
        have k2 : (0 + (S0.length + 1) < 8796093022208) = True := eq_true (by omega)
        have k3 : (S0.length + 1 + 1 < 8796093022208) = True := eq_true (by omega)
        have k4 : (S0.length + 1 + 1 + O2.length < 8796093022208) = True := eq_true (by omega)
        simp only [spec_ctRanked.l2, hpos, if_true, hpre, nat_nonneg, LL.out, hlt, hr]
        refine Ev.bind c1 ?_
        refine Ev.bind c2 ?_
        simp only [eq_false hc, if_false, Option.bind_some, k1, if_true, Int.toNat_natCast, ht, hd, List.length_nil, Nat.zero_add, E0.out, show (S0.length + 1 < 8796093022208) = True from eq_true (by omega), List.nil_append, List.length_append, List.length_singleton, k3, k4, wrap_succ (show i < 4611686018427387904 by omega)]
        rw [show S0 ++ [o] ++ [s] ++ O2 = S0 ++ [o] ++ s :: O2 by simp]
        exact h
theorem ct_l1 (l N : List ByteArray) (hl : l.length ≤ 120) (hN : N.length ≤ 120) (hu : upB N) : ∀ d i (out : List ByteArray), i + d = N.length → out.Perm (N.take i) → out.Pairwise (Rk l) →
    ∃ S, Ev (fun k => spec_ctRanked.l1 k l N out (N.length : Int) (i : Int)) S ∧ S.Perm N ∧ S.Pairwise (Rk l) := by
  intro d
  induction d with
  | zero =>
    intro i out hi hp hs
    refine ⟨out, Ev.succ ?_, by rwa [List.take_of_length_le (by omega)] at hp, hs⟩
    simp only [spec_ctRanked.l1, show ((i : Int) < (N.length : Int)) = False from eq_false (by omega), if_false]
    exact Ev.now _
  | succ d ih =>
    intro i out hi hp hs
    have hlt : i < N.length := by omega
    have hg : N.getD i ByteArray.empty = N[i] := by rw [List.getD_eq_getElem?_getD, List.getElem?_eq_getElem hlt]; rfl
    have hol : out.length = i := by rw [hp.length_eq, List.length_take]; omega
    obtain ⟨o2, g1, g2, g3⟩ := ct_l2 l N N[i] i hl (by omega) out.length out [] rfl (by rw [List.length_nil]; omega) (by rw [List.append_nil]; exact hs) (fun o ho => by
      obtain ⟨j, hj, rfl⟩ := List.mem_take_iff_getElem.1 (hp.mem_iff.1 ho)
      exact List.pairwise_iff_getElem.1 hu j i (by omega) hlt (by omega)) (fun o ho => by simp at ho)
    rw [List.append_nil] at g1 g3
    obtain ⟨S, k1, k2, k3⟩ := ih (i + 1) o2 (by omega) (by
      rw [List.take_succ_eq_append_getElem hlt]
      exact g1.trans ((List.Perm.cons _ hp).trans (List.perm_append_singleton _ _).symm)) g2
    refine ⟨S, Ev.succ ?_, k2, k3⟩
    simp only [spec_ctRanked.l1, show ((i : Int) < (N.length : Int)) = True from eq_true (by omega), if_true, nat_nonneg, rdSx, hg]
    exact g3 S k1
theorem ct_l0 (l : List ByteArray) (hl : l.length ≤ 120) : ∀ d i (N : List ByteArray), i + d = l.length → upB N → (∀ x, x ∈ N.map ky ↔ x ∈ (l.take i).map ky) → N.length ≤ i →
    ∃ N', upB N' ∧ (∀ x, x ∈ N'.map ky ↔ x ∈ l.map ky) ∧ N'.length ≤ 120 ∧ ∀ r, Ev (fun k => spec_ctRanked.l1 k l N' [] (N'.length : Int) 0) r → Ev (fun k => spec_ctRanked.l0 k l N l (l.length : Int) (i : Int)) r := by
  intro d
  induction d with
  | zero =>
    intro i N hi hu hm hN
    refine ⟨N, hu, by rwa [List.take_of_length_le (by omega)] at hm, by omega, fun r h => Ev.succ ?_⟩
    simp only [spec_ctRanked.l0, show ((i : Int) < (l.length : Int)) = False from eq_false (by omega), if_false]
    exact h
  | succ d ih =>
    intro i N hi hu hm hN
    have hlt : i < l.length := by omega
    have hg : l.getD i ByteArray.empty = l[i] := by rw [List.getD_eq_getElem?_getD, List.getElem?_eq_getElem hlt]; rfl
    obtain ⟨N1, g1, g2, g3, g4⟩ := ctPut_ev N l[i] (by omega) hu
    obtain ⟨N', k1, k2, k3, k4⟩ := ih (i + 1) N1 (by omega) g2 (fun x => by
      rw [g3, hm, List.take_succ_eq_append_getElem hlt, List.map_append, List.mem_append, List.map_cons, List.map_nil, List.mem_singleton]) (by omega)
    refine ⟨N', k1, k2, k3, fun r h => Ev.succ ?_⟩
    simp only [spec_ctRanked.l0, show ((i : Int) < (l.length : Int)) = True from eq_true (by omega), if_true, nat_nonneg, rdSx, hg, wrap_succ (show i < 4611686018427387904 by omega)]
    exact Ev.bind g1 (k4 r h)
/-- Both rank alike: each text once, those that are there more often first. -/
theorem rank_both (l : List ByteArray) (h : tokB l = true) : ∃ Z, Ev (fun k => impl_ranked.f k l) Z ∧ Ev (fun k => spec_ctRanked.f k l) Z ∧ (∀ x, x ∈ Z ↔ x ∈ l) ∧ Z.Nodup ∧ Z.length ≤ 120 := by
  have h120 := tokB_len h
  obtain ⟨D, d1, d2, d3, _⟩ := distinct_up l (by omega)
  obtain ⟨N, n1, n2, n3, n4⟩ := ct_l0 l h120 l.length 0 [] (by omega) List.Pairwise.nil (fun x => by simp) (by simp)
  have e : N = D := up_unique n1 d2 (fun x => by rw [n2, d3])
  subst e
  obtain ⟨S, s1, s2, s3⟩ := ranked_ev l N h d1 d2 d3 (by omega)
  obtain ⟨T, t1, t2, t3⟩ := ct_l1 l N h120 n3 d2 N.length 0 [] (by omega) (by rw [List.take_zero]) List.Pairwise.nil
  have e : S = T := rk_unique s3 t3 (s2.trans t2.symm)
  subst e
  refine ⟨S, s1, ?_, fun x => ?_, ?_, by rw [s2.length_eq]; exact n3⟩
  · unfold spec_ctRanked.f
    exact n4 S t1
  · rw [s2.mem_iff, ← ky_mem, d3, ky_mem]
  · refine (s2.nodup_iff).2 ?_
    exact List.Pairwise.imp (S := fun a b : ByteArray => a ≠ b) (fun {a b} hlt e => ltL_irrefl (ky b) (by rw [e] at hlt; exact hlt)) d2
def sumT (l Z : List ByteArray) (i : Nat) : Int := ((Z.take i).map (cn l)).sum
theorem sumT_zero (l Z : List ByteArray) : sumT l Z 0 = 0 := by unfold sumT; simp
theorem sumT_succ (l Z : List ByteArray) (i : Nat) (h : i < Z.length) : sumT l Z (i + 1) = sumT l Z i + cn l Z[i] := by
  unfold sumT
  rw [List.take_succ_eq_append_getElem h, List.map_append, List.sum_append]
  simp
theorem sumT_bounds (l Z : List ByteArray) (hl : l.length ≤ 120) : ∀ i, i ≤ Z.length → 0 ≤ sumT l Z i ∧ sumT l Z i ≤ 120 * (i : Int) := by
  intro i
  induction i with
  | zero => intro _; rw [sumT_zero]; omega
  | succ i ih =>
    intro h
    have h1 := ih (by omega)
    have h2 := cn_bounds l (Z[i]'(by omega))
    rw [sumT_succ l Z i (by omega)]
    omega
def ind (a g : ByteArray) : Int := if a.data.toList = g.data.toList then 1 else 0
theorem sum_ind (a : ByteArray) : ∀ Z : List ByteArray, (a ∉ Z → (Z.map (ind a)).sum = 0) ∧ (Z.Nodup → a ∈ Z → (Z.map (ind a)).sum = 1)
  | [] => ⟨fun _ => rfl, fun _ h => by cases h⟩
  | g :: Z => by
    obtain ⟨h1, h2⟩ := sum_ind a Z
    constructor
    · intro h
      rw [List.map_cons, List.sum_cons, h1 (fun hh => h (List.mem_cons_of_mem _ hh))]
      unfold ind
      rw [if_neg (fun e => h (by rw [ky_inj (a := a) (b := g) e]; exact List.mem_cons_self ..))]
      rfl
    · intro hn h
      obtain ⟨k1, k2⟩ := List.nodup_cons.1 hn
      rw [List.map_cons, List.sum_cons]
      unfold ind
      by_cases e : a.data.toList = g.data.toList
      · have := ky_inj (a := a) (b := g) e
        subst this
        rw [if_pos rfl]
        have := h1 k1
        unfold ind at this
        rw [this]
        rfl
      · rw [if_neg e]
        have := h2 k2 ((List.mem_cons.1 h).resolve_left (fun e2 => e (by rw [e2])))
        unfold ind at this
        rw [this]
        rfl
theorem sum_add (f g : ByteArray → Int) : ∀ Z : List ByteArray, (Z.map fun x => f x + g x).sum = (Z.map f).sum + (Z.map g).sum
  | [] => rfl
  | x :: Z => by rw [List.map_cons, List.sum_cons, sum_add f g Z, List.map_cons, List.sum_cons, List.map_cons, List.sum_cons]; omega
theorem cn_cons (a : ByteArray) (l : List ByteArray) (g : ByteArray) : cn (a :: l) g = cn l g + ind a g := by
  unfold cn impl_ranked.cnt ind
  by_cases e : a.data.toList = g.data.toList
  · rw [if_pos e, List.filter_cons_of_pos (p := fun s : ByteArray => decide (s.data.toList = g.data.toList)) (decide_eq_true e), List.length_cons]
    omega
  · rw [if_neg e, List.filter_cons_of_neg (p := fun s : ByteArray => decide (s.data.toList = g.data.toList)) (by rw [decide_eq_true_eq]; exact e)]
    omega
theorem sum_all (Z : List ByteArray) (hn : Z.Nodup) : ∀ l : List ByteArray, (∀ x, x ∈ l → x ∈ Z) → (Z.map (cn l)).sum = (l.length : Int)
  | [], _ => by
    have : ∀ Y : List ByteArray, (Y.map (cn [])).sum = 0 := by
      intro Y
      induction Y with
      | nil => rfl
      | cons y Y ih => rw [List.map_cons, List.sum_cons, ih]; rfl
    rw [this]; rfl
  | a :: l, h => by
    have e : (Z.map (cn (a :: l))) = Z.map fun x => cn l x + ind a x := List.map_congr_left fun x _ => cn_cons a l x
    rw [e, sum_add, sum_all Z hn l (fun x hx => h x (List.mem_cons_of_mem _ hx)), (sum_ind a Z).2 hn (h a (List.mem_cons_self ..)), List.length_cons]
    omega
/-- The share in percent of the first n of Z. -/
def covN (l Z : List ByteArray) (n : Nat) : Int := Int.tdiv (100 * sumT l Z n) (l.length : Int)
theorem cov_end (l Z : List ByteArray) (hl : l.length ≤ 120) (h0 : 0 < l.length) (hZ : Z.length ≤ 120) (n : Nat) (hn : n ≤ Z.length) : wrap64 (Int.tdiv (wrap64 (100 * sumT l Z n)) (l.length : Int)) = covN l Z n := by
  have hb := sumT_bounds l Z hl n hn
  rw [wrap_id (x := 100 * sumT l Z n) (by omega) (by omega)]
  have h1 : 0 ≤ Int.tdiv (100 * sumT l Z n) (l.length : Int) := Int.tdiv_nonneg (by omega) (by omega)
  have h2 : Int.tdiv (100 * sumT l Z n) (l.length : Int) ≤ 100 * sumT l Z n := Int.tdiv_le_self _ (by omega)
  rw [wrap_id (x := Int.tdiv (100 * sumT l Z n) (l.length : Int)) (by omega) (by omega)]
  rfl
theorem implCov_l0 (l Z : List ByteArray) (hl : l.length ≤ 120) (h0 : 0 < l.length) (hZ : Z.length ≤ 120) (m : Nat) (hm : m ≤ Z.length) : ∀ d i, i + d = m → Ev (fun k => impl_coverage.l0 k l Z (sumT l Z i) (m : Int) (i : Int)) (covN l Z m) := by
  intro d
  induction d with
  | zero =>
    intro i hi
    obtain rfl : i = m := by omega
    refine Ev.succ ?_
    simp only [impl_coverage.l0, Int.lt_irrefl, if_false, show ((l.length : Int) = 0) = False from eq_false (by omega), cov_end l Z hl h0 hZ i hm]
    exact Ev.now _
  | succ d ih =>
    intro i hi
    have hlt : i < Z.length := by omega
    have hg : Z.getD i ByteArray.empty = Z[i] := by rw [List.getD_eq_getElem?_getD, List.getElem?_eq_getElem hlt]; rfl
    have hb := sumT_bounds l Z hl (i + 1) (by omega)
    have hs := sumT_succ l Z i hlt
    refine Ev.succ ?_
    simp only [impl_coverage.l0, show ((i : Int) < (m : Int)) = True from eq_true (by omega), if_true, nat_nonneg, show ((i : Int) < (Z.length : Int)) = True from eq_true (by omega), rdSx, hg, placesOf_eq l _ (show l.length < 17592186044416 by omega), Option.bind_some, cn_plcs, ← hs, wrap_id (x := sumT l Z (i + 1)) (by omega) (by omega), wrap_succ (show i < 4611686018427387904 by omega)]
    exact ih (i + 1) (by omega)
theorem specTop_l0 (l Z : List ByteArray) (hl : l.length ≤ 120) (h0 : 0 < l.length) (hZ : Z.length ≤ 120) (n m : Nat) (hm : m = min n Z.length) : ∀ d i, i + d = Z.length → Ev (fun k => spec_ctTop.l0 k l (n : Int) (sumT l Z (min i n)) Z (Z.length : Int) (i : Int)) (covN l Z m) := by
  intro d
  induction d with
  | zero =>
    intro i hi
    obtain rfl : i = Z.length := by omega
    refine Ev.succ ?_
    have e : min Z.length n = m := by omega
    simp only [spec_ctTop.l0, Int.lt_irrefl, if_false, show ((l.length : Int) = 0) = False from eq_false (by omega), e, cov_end l Z hl h0 hZ m (by omega)]
    exact Ev.now _
  | succ d ih =>
    intro i hi
    have hlt : i < Z.length := by omega
    have hg : Z.getD i ByteArray.empty = Z[i] := by rw [List.getD_eq_getElem?_getD, List.getElem?_eq_getElem hlt]; rfl
    have key := ih (i + 1) (by omega)
    refine Ev.succ ?_
    by_cases hn : i < n
    · have e1 : min i n = i := by omega
      have e2 : min (i + 1) n = i + 1 := by omega
      have hb := sumT_bounds l Z hl (i + 1) (by omega)
      have hs := sumT_succ l Z i hlt
      rw [e2] at key
      simp only [spec_ctTop.l0, e1, show ((i : Int) < (Z.length : Int)) = True from eq_true (by omega), if_true, nat_nonneg, show ((i : Int) < (n : Int)) = True from eq_true (by omega), rdSx, hg, wrap_succ (show i < 4611686018427387904 by omega)]
      refine Ev.bind (ctCountN l Z[i] hl) ?_
      rw [← hs, wrap_id (x := sumT l Z (i + 1)) (by omega) (by omega)]
      exact key
    · have e1 : min i n = n := by omega
      have e2 : min (i + 1) n = n := by omega
      rw [e2] at key
      simp only [spec_ctTop.l0, e1, show ((i : Int) < (Z.length : Int)) = True from eq_true (by omega), if_true, nat_nonneg, show ((i : Int) < (n : Int)) = False from eq_false (by omega), if_false, wrap_succ (show i < 4611686018427387904 by omega)]
      exact key
theorem cov_both (l : List ByteArray) (h : tokB l = true) (h0 : 0 < l.length) : ∃ Z : List ByteArray, Z.length ≤ 120 ∧ covN l Z Z.length = 100 ∧ ∀ n : Nat, Ev (fun k => impl_coverage.f k l (n : Int)) (covN l Z (min n Z.length)) ∧ Ev (fun k => spec_ctTop.f k l (n : Int)) (covN l Z (min n Z.length)) := by
  have h120 := tokB_len h
  obtain ⟨Z, z1, z2, z3, z4, z5⟩ := rank_both l h
  refine ⟨Z, z5, ?_, fun n => ⟨?_, ?_⟩⟩
  · unfold covN sumT
    rw [List.take_length, sum_all Z z4 l (fun x hx => (z3 x).2 hx)]
    exact Int.mul_tdiv_cancel _ (by omega)
  · unfold impl_coverage.f
    refine Ev.bind z1 ?_
    have e : mn (n : Int) (Z.length : Int) = ((min n Z.length : Nat) : Int) := by unfold mn; split <;> omega
    simp only [e, nat_nonneg, if_true, show (((min n Z.length : Nat) : Int) ≤ (Z.length : Int)) = True from eq_true (by omega), Int.toNat_natCast, List.length_take, show min (min n Z.length) Z.length = min n Z.length by omega]
    have key := implCov_l0 l Z h120 h0 z5 (min n Z.length) (by omega) (min n Z.length) 0 (by omega)
    rw [sumT_zero] at key
    exact key
  · unfold spec_ctTop.f
    refine Ev.bind z2 ?_
    have key := specTop_l0 l Z h120 h0 z5 n (min n Z.length) rfl Z.length 0 (by omega)
    rw [show min 0 n = 0 by omega, sumT_zero] at key
    exact key
end Go.Proofs.Ytcpkobahiciadaa.Pure
namespace Go.Proofs.Ytcpkobahiciadaa.Pure
open Go.RowKit Go.Proofs.Ytcpkobahiciadaa.Q Go.Proofs.YtcpkobahiciadaaW.PrintWords Go.Proofs.YtcpkobahiciadaaW.PrintLast

theorem topCov_ev (l : List ByteArray) (a : Int) (hl : l.length < 4611686018427387904) (hz : TSz l) : ∃ r : Int × Bool, Ev (fun k => impl_TopCoverage.f k l a) r ∧ Ev (fun k => spec_TopCoverage.f k l a) r := by
  have hT := areTokens_ev l hz
  have hG := ctGood_ev l hl hz
  cases ht : tokB l with
  | false =>
    rw [ht] at hT hG
    refine ⟨(0, false), ?_, ?_⟩
    · unfold impl_TopCoverage.f
      refine Ev.bind hT ?_
      simp only [Bool.false_eq_true, if_false]
      exact Ev.now _
    · unfold spec_TopCoverage.f
      refine Ev.bind hG ?_
      simp only [Bool.false_eq_true, if_false]
      exact Ev.now _
  | true =>
    rw [ht] at hT hG
    by_cases h0 : l.length = 0
    · refine ⟨(0, false), ?_, ?_⟩
      · unfold impl_TopCoverage.f
        refine Ev.bind hT ?_
        simp only [if_true, within_eq, Option.bind_some, show ((l.length : Int) = 0) = True from eq_true (by omega), ite_self]
        exact Ev.now _
      · unfold spec_TopCoverage.f
        refine Ev.bind hG ?_
        simp only [if_true, show ((l.length : Int) = 0) = True from eq_true (by omega)]
        exact Ev.now _
    · have hne : ((l.length : Int) = 0) = False := eq_false (by omega)
      cases hn : inB a 0 120 with
      | false =>
        refine ⟨(0, false), ?_, ?_⟩
        · unfold impl_TopCoverage.f
          refine Ev.bind hT ?_
          simp only [if_true, within_eq, Option.bind_some, hn, Bool.false_eq_true, if_false]
          exact Ev.now _
        · unfold spec_TopCoverage.f
          refine Ev.bind hG ?_
          simp only [if_true, hne, if_false, l1In_eq, Option.bind_some, hn, Bool.false_eq_true]
          exact Ev.now _
      | true =>
        have hn' : 0 ≤ a ∧ a ≤ 120 := of_decide_eq_true hn
        obtain ⟨n, rfl⟩ : ∃ n : Nat, a = (n : Int) := ⟨a.toNat, by omega⟩
        obtain ⟨Z, _, _, h3⟩ := cov_both l ht (by omega)
        obtain ⟨k1, k2⟩ := h3 n
        refine ⟨(covN l Z (min n Z.length), true), ?_, ?_⟩
        · unfold impl_TopCoverage.f
          refine Ev.bind hT ?_
          simp only [if_true, within_eq, Option.bind_some, hn, hne, if_false]
          exact Ev.bind k1 (Ev.now _)
        · unfold spec_TopCoverage.f
          refine Ev.bind hG ?_
          simp only [if_true, hne, if_false, l1In_eq, Option.bind_some, hn]
          exact Ev.bind k2 (Ev.now _)
theorem FnExactTopCoverage : laws_FnExactTopCoverage.Pure := by
  intro l a h hz _
  obtain ⟨r, _, hr⟩ := szStringS_ev l h hz
  refine Ev.rounds ?_
  unfold laws_FnExactTopCoverage.f
  refine Ev.bind hr ?_
  by_cases h0 : r < 0
  · simp only [eq_true h0, if_true]
    exact Ev.now _
  simp only [eq_false h0, if_false]
  obtain ⟨T, hi, hs⟩ := topCov_ev l a (by omega) hz
  refine Ev.bind (toStringS_ev l h) ?_
  refine Ev.bind hs ?_
  refine Ev.bind (toStringS_ev l h) ?_
  refine Ev.bind hi ?_
  simp only [bne_self_eq_false, if_true]
  refine Ev.succ ?_
  simp only [laws_FnExactTopCoverage.j0, Bool.false_eq_true, if_false]
  refine Ev.bind (toStringS_ev l h) ?_
  refine Ev.bind (eqStringS_ev _ (by omega)) ?_
  exact Ev.now _
end Go.Proofs.Ytcpkobahiciadaa.Pure
