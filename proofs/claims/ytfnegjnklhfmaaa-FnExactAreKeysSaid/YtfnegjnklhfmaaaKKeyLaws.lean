/- Plain lemmas on the laws' own helpers for lists of keys: copies, comparisons, marks. -/
import Derived.Test.YtfnegjnklhfmaaaQLawsEqKey
import Derived.Test.YtfnegjnklhfmaaaQLawsEqKeyS
import Derived.Test.YtfnegjnklhfmaaaQLawsHeldKeyS
import Derived.Test.YtfnegjnklhfmaaaQLawsMarkKeyS
import Derived.Test.YtfnegjnklhfmaaaQLawsSzKeyS
import Derived.Test.YtfnegjnklhfmaaaQLawsToKey
import Derived.Test.YtfnegjnklhfmaaaQLawsToKeyS
import Derived.Test.YtfnegjnklhfmaaaKEv
import Derived.Test.YtfnegjnklhfmaaaQ0
set_option linter.unusedVariables false
set_option linter.unusedSimpArgs false
namespace Go.Proofs.Ytfnegjnklhfmaaa.Pure
open Go.RowKit Go.Proofs.Ytfnegjnklhfmaaa.Q Go.Proofs.YtfnegjnklhfmaaaW.PrintWords Go.Proofs.YtfnegjnklhfmaaaW.PrintLast

def kconv (x : S23) : S25 := ⟨x.f0, x.f1, x.f2, x.f3, x.f4⟩
theorem rdKey (l : List S25) (j : Nat) : rd_T25 l (j : Int) = l.getD j z25 := by simp [rd_T25]
theorem rdKeyL (l : List S23) (j : Nat) : rd_T23 l (j : Int) = l.getD j z23 := by simp [rd_T23]

theorem toKeyS_ev (l : List S23) (hl : l.length * 40 ≤ 140737488351232) : Ev (fun k => laws_toKeyS.f k l) (l.map kconv) := by
  unfold laws_toKeyS.f
  simp only [nat_nonneg, if_true, Int.toNat_natCast, show (l.length ≤ 7036874417766) = True from eq_true (by omega)]
  have key := Ev.upto (L := fun k j => laws_toKeyS.l0 k l ((l.map kconv).take j ++ List.replicate (l.length - j) z25) (j : Int)) (r := l.map kconv) (n := l.length)
    (by
      refine Ev.succ ?_
      simp only [laws_toKeyS.l0, Int.lt_irrefl, if_false]
      simp only [Nat.sub_self, List.replicate_zero, List.append_nil]
      rw [List.take_of_length_le (by simp)]
      exact Ev.now _)
    (by
      intro j hj h
      refine Ev.succ ?_
      have h1 : ((j : Int) < (l.length : Int)) = True := eq_true (by omega)
      have hlen : ((l.map kconv).take j ++ List.replicate (l.length - j) z25).length = l.length := by simp; omega
      simp only [laws_toKeyS.l0, laws_toKey.f, Option.bind_some, h1, if_true, nat_nonneg, hlen, Int.toNat_natCast, wrap_succ (show j < 4611686018427387904 by omega), rdKeyL]
      have e : ((l.map kconv).take j ++ List.replicate (l.length - j) z25).set j (kconv (l.getD j z23)) = (l.map kconv).take (j + 1) ++ List.replicate (l.length - (j + 1)) z25 := by
        have e1 : l.length - j = (l.length - (j + 1)) + 1 := by omega
        rw [e1, List.replicate_succ, List.set_append_right _ _ (by simp; omega)]
        have e2 : j - ((l.map kconv).take j).length = 0 := by simp; omega
        rw [e2, List.set_cons_zero, List.take_succ_eq_append_getElem (by simpa using hj)]
        simp [List.getD_eq_getElem?_getD, List.getElem?_eq_getElem hj]
      have e3 : (⟨(l.getD j z23).f0, (l.getD j z23).f1, (l.getD j z23).f2, (l.getD j z23).f3, (l.getD j z23).f4⟩ : S25) = kconv (l.getD j z23) := rfl
      rw [e3, e]
      exact h)
    0 (Nat.zero_le _)
  simpa using key

theorem eqKeyS_ev (l : List S25) (hl : l.length < 4611686018427387904) : Ev (fun k => laws_eqKeyS.f k l l) true := by
  unfold laws_eqKeyS.f
  simp only [if_true]
  exact Ev.upto (L := fun k j => laws_eqKeyS.l0 k l l (j : Int)) (r := true) (n := l.length)
    (by
      refine Ev.succ ?_
      simp only [laws_eqKeyS.l0, Int.lt_irrefl, if_false]
      exact Ev.now _)
    (by
      intro j hj h
      refine Ev.succ ?_
      have h1 : ((j : Int) < (l.length : Int)) = True := eq_true (by omega)
      simp only [laws_eqKeyS.l0, laws_eqKey.f, Option.bind_some, h1, if_true, nat_nonneg, wrap_succ (show j < 4611686018427387904 by omega)]
      exact h)
    0 (Nat.zero_le _)

theorem szKeyS_some (l : List S23) (a : Int) (hl : l.length * 40 ≤ 140737488351232) (h0 : 0 ≤ a) (ha : a ≤ 1048576) : ∃ r, laws_szKeyS.f l a = some r ∧ (0 ≤ r → r = a - l.length ∧ (l.length : Int) ≤ a) := by
  unfold laws_szKeyS.f
  rw [wrap_id (by omega) (by omega)]
  split
  · exact ⟨_, rfl, fun h => absurd h (by decide)⟩
  · exact ⟨_, rfl, fun h => ⟨rfl, by omega⟩⟩

def markKey (a : Int) : S25 := ⟨a, a + 1, a + 2, a + 3, a + 4⟩
def markKeys (a : Int) (n : Nat) : List S25 := (List.range n).map fun i : Nat => markKey (a + 5 * (i : Int))
theorem markKeys_length (a : Int) (n : Nat) : (markKeys a n).length = n := by simp [markKeys]
theorem markKeys_succ (a : Int) (n : Nat) : markKeys a (n + 1) = markKeys a n ++ [markKey (a + 5 * n)] := by simp [markKeys, List.range_succ]
theorem markKeys_get (a : Int) (n j : Nat) (h : j < n) : (markKeys a n).getD j z25 = markKey (a + 5 * j) := by
  simp [markKeys, List.getD_eq_getElem?_getD, h]

theorem markKeyS_ev (l : List S25) (a : Int) (h0 : 0 ≤ a) (ha : a + 5 * l.length < 4611686018427387904) : Ev (fun k => laws_markKeyS.f k l a) (a + 5 * l.length, markKeys a l.length) := by
  unfold laws_markKeyS.f
  have key := Ev.upto (L := fun k j => laws_markKeyS.l0 k (markKeys a j ++ l.drop j) (a + 5 * j) (j : Int)) (r := (a + 5 * l.length, markKeys a l.length)) (n := l.length)
    (by
      refine Ev.succ ?_
      have hlen : (markKeys a l.length ++ l.drop l.length).length = l.length := by simp [markKeys_length]
      simp only [laws_markKeyS.l0, hlen, Int.lt_irrefl, if_false]
      simp only [List.drop_length, List.append_nil]
      exact Ev.now _)
    (by
      intro j hj h
      refine Ev.succ ?_
      have hlen : (markKeys a j ++ l.drop j).length = l.length := by simp [markKeys_length]; omega
      have h1 : ((j : Int) < (l.length : Int)) = True := eq_true (by omega)
      have hs : ∀ v, rd_T25 ((markKeys a j ++ l.drop j).set j v) (j : Int) = v := by
        intro v
        rw [rdKey, List.getD_eq_getElem?_getD, List.getElem?_set_self (by omega)]
        rfl
      simp only [laws_markKeyS.l0, Option.bind_some, hlen, h1, if_true, nat_nonneg, Int.toNat_natCast, List.set_set, hs, wrap_succ (show j < 4611686018427387904 by omega)]
      rw [wrap_id (x := a + 5 * (j : Int) + 1) (by omega) (by omega), wrap_id (x := a + 5 * (j : Int) + 1 + 1) (by omega) (by omega), wrap_id (x := a + 5 * (j : Int) + 1 + 1 + 1) (by omega) (by omega), wrap_id (x := a + 5 * (j : Int) + 1 + 1 + 1 + 1) (by omega) (by omega), wrap_id (x := a + 5 * (j : Int) + 1 + 1 + 1 + 1 + 1) (by omega) (by omega)]
      have e : (markKeys a j ++ l.drop j).set j (markKey (a + 5 * j)) = markKeys a (j + 1) ++ l.drop (j + 1) := by
        rw [List.set_append_right _ _ (by simp [markKeys_length]), markKeys_length, Nat.sub_self, List.drop_eq_getElem_cons hj, List.set_cons_zero, markKeys_succ, List.append_assoc]
        rfl
      have e2 : (⟨a + 5 * (j : Int), a + 5 * (j : Int) + 1, a + 5 * (j : Int) + 1 + 1, a + 5 * (j : Int) + 1 + 1 + 1, a + 5 * (j : Int) + 1 + 1 + 1 + 1⟩ : S25) = markKey (a + 5 * j) := by
        simp only [markKey, S25.mk.injEq]
        refine ⟨trivial, trivial, ?_, ?_, ?_⟩ <;> omega
      rw [e2, e, show a + 5 * (j : Int) + 1 + 1 + 1 + 1 + 1 = a + 5 * ((j + 1 : Nat) : Int) by omega]
      exact h)
    0 (Nat.zero_le _)
  simpa [markKeys] using key

theorem heldKeyS_ev (n : Nat) (a : Int) (h0 : 0 ≤ a) (ha : a + 5 * n < 4611686018427387904) : Ev (fun k => laws_heldKeyS.f k (markKeys a n) a) (a + 5 * n) := by
  unfold laws_heldKeyS.f
  have key := Ev.upto (L := fun k j => laws_heldKeyS.l0 k (markKeys a n) (a + 5 * j) (j : Int)) (r := a + 5 * (n : Int)) (n := n)
    (by
      refine Ev.succ ?_
      simp only [laws_heldKeyS.l0, markKeys_length, Int.lt_irrefl, if_false]
      exact Ev.now _)
    (by
      intro j hj h
      refine Ev.succ ?_
      have h1 : ((j : Int) < (n : Int)) = True := eq_true (by omega)
      simp only [laws_heldKeyS.l0, markKeys_length, h1, if_true, nat_nonneg, rdKey, markKeys_get a n j hj, markKey, wrap_succ (show j < 4611686018427387904 by omega)]
      rw [wrap_id (x := a + 5 * (j : Int) + 1) (by omega) (by omega), wrap_id (x := a + 5 * (j : Int) + 1 + 1) (by omega) (by omega), wrap_id (x := a + 5 * (j : Int) + 1 + 1 + 1) (by omega) (by omega), wrap_id (x := a + 5 * (j : Int) + 1 + 1 + 1 + 1) (by omega) (by omega), wrap_id (x := a + 5 * (j : Int) + 1 + 1 + 1 + 1 + 1) (by omega) (by omega)]
      simp only [show (a + 5 * (j : Int) + 2 = a + 5 * (j : Int) + 1 + 1) = True from eq_true (by omega), show (a + 5 * (j : Int) + 3 = a + 5 * (j : Int) + 1 + 1 + 1) = True from eq_true (by omega), show (a + 5 * (j : Int) + 4 = a + 5 * (j : Int) + 1 + 1 + 1 + 1) = True from eq_true (by omega), if_true, show a + 5 * (j : Int) + 1 + 1 + 1 + 1 + 1 = a + 5 * ((j + 1 : Nat) : Int) by omega]
      exact h)
    0 (Nat.zero_le _)
  simpa using key
end Go.Proofs.Ytfnegjnklhfmaaa.Pure
