/- Maps keyed by pairs of texts, and the best of several counted pairs: of those that are counted most, the first in order. Any texts; no condition but that keys are no longer than Go lets them be. -/
import Derived.Maps.RangeWalk
import Derived.Maps.OwnOps
import Derived.Maps.Views
import Derived.DeepKeys4
import Derived.WideKeyArr
import Derived.WideKeyEntry
import Derived.Sort.Walk0
set_option linter.unusedSimpArgs false
namespace Go.Proofs.YtidlgfgadiknfaaW.GBst
open Go Go.WideMaps Go.Maps
section
variable {P : Program} {k e : TypeId}
def plit (x y : ByteArray) : Lit := .string (keyBytes [.string x.data.toList, .string y.data.toList])
theorem keyOf_strs (A : ArrKey P k e 2) (he : P.underlying e = some .string) (hsz : ∃ m, P.types.size = m + 1) {x y : ByteArray} (hx : x.size ≤ maxLen) (hy : y.size ≤ maxLen) : keyOf P k (.agg #[.string x, .string y]) = some (plit x y) := by
 have hkt := A.keyType hsz
 obtain ⟨m, hm⟩ := hsz
 unfold keyOf
 simp only [A.hu]
 rw [if_pos (by simp [hkt, Value.formed, A.hu, A.size]), hm]
 unfold Program.keyLits
 simp only [A.hu, Value.cells]
 rw [if_pos (by rw [A.size]; rfl), show List.range 2 = [0, 1] from rfl, List.mapM_cons, List.mapM_cons, List.mapM_nil]
 simp [A.one, Program.keyLits, he, hx, hy, plit]
theorem lits_inv {m : Nat} (he : P.underlying e = some .string) {c : Value} {L : List Lit} (h : P.keyLits (m + 1) e [c] = some L) : ∃ s : ByteArray, c = .string s ∧ s.size ≤ maxLen ∧ L = [.string s.data.toList] := by
 unfold Program.keyLits at h
 cases c <;> simp [he] at h
 exact ⟨_, rfl, h.1, h.2.symm⟩
theorem keyOf_inv (A : ArrKey P k e 2) (he : P.underlying e = some .string) (hsz : ∃ m, P.types.size = m + 1) {v : Value} {kl : Lit} (h : keyOf P k v = some kl) : ∃ x : ByteArray × ByteArray, v = .agg #[.string x.1, .string x.2] ∧ x.1.size ≤ maxLen ∧ x.2.size ≤ maxLen ∧ kl = plit x.1 x.2 := by
 obtain ⟨m, hm⟩ := hsz
 obtain ⟨xs, L, rfl, hL, rfl⟩ := keyOf_top A.wide h
 rw [hm] at hL
 unfold Program.keyLits at hL
 simp only [A.hu] at hL
 split at hL
 ·rename_i hlen
  rw [A.size] at hlen
  obtain ⟨xl⟩ := xs
  simp only at hlen
  match xl, hlen with
  | [c0, c1], _ =>
   rw [show List.range 2 = [0, 1] from rfl, List.mapM_cons, List.mapM_cons, List.mapM_nil] at hL
   simp only [A.one, Nat.zero_mul, Nat.one_mul, List.drop_zero, List.drop_succ_cons, List.take_succ_cons, List.take_zero, Option.map_eq_some_iff, bind, Option.bind_eq_some_iff, pure, Option.some.injEq] at hL
   obtain ⟨L2, ⟨a, ha, b2, ⟨b, hb, c, rfl, rfl⟩, rfl⟩, rfl⟩ := hL
   obtain ⟨x, rfl, hx, rfl⟩ := lits_inv he ha
   obtain ⟨y, rfl, hy, rfl⟩ := lits_inv he hb
   exact ⟨(x, y), rfl, hx, hy, rfl⟩
 ·cases hL
theorem plit_inj (A : ArrKey P k e 2) (he : P.underlying e = some .string) (hsz : ∃ m, P.types.size = m + 1) {x y x' y' : ByteArray} (hx : x.size ≤ maxLen) (hy : y.size ≤ maxLen) (hx' : x'.size ≤ maxLen) (hy' : y'.size ≤ maxLen) (h : plit x y = plit x' y') : x = x' ∧ y = y' := by
 have h1 := keyOf_strs A he hsz hx hy
 have h2 := keyOf_strs A he hsz hx' hy'
 rw [← h] at h2
 have := (Keyed.of_law A.law).inj h1 h2
 simpa using this
end
theorem entry_update {H : Type} {P : Program} {w : World} {t k e : TypeId} {R : Value → Option (DataW H × List MemPlace)} {b : Nat} {es : Array MapEntry} {clock : Nat} (K : KeyLaw P k) (ht : P.underlying t = some (.map k e)) {z : Value} (hz : ∀ u : World, (zeroValue e).run P u = .ok z u) (hb : w.heap[b]? = some (.map es clock)) (F : WideElems.Fit P k R es clock) {key : Value} {kl : Lit} (hkey : keyOf P k key = some kl) :
  ∃ (v : Value) (st : Nat) (w1 : World), (Instr.lookup t (.map (some b)) key false).run P w = .ok v w ∧ (Instr.mapEntry t (.map (some b)) key).run P w = .ok (.tuple #[v, .int .i64 st]) w1 ∧ (Instr.mapUpdate t (.map (some b)) key v).run P w = .ok () w1 := by
 rcases K.find w hkey es.toList F.keys with ⟨h1, _⟩ | ⟨j, e0, h1, h2, h3⟩
 ·refine ⟨z, clock, ChangeMaps.setBlock w b (.map (es.push ⟨key, z, clock⟩) (clock + 1)), ?_, ?_, ?_⟩
  ·simp [Instr.lookup, run_underlying ht, MapKept.run_getObj_map hb, K.check w es.isEmpty hkey, h1, hz, Result.andThen]
  ·simp [Instr.mapEntry, run_underlying ht, MapKept.run_getObj_map hb, K.check w false hkey, h1, hz, MapKept.run_setObj_map _ hb, Result.andThen, ChangeMaps.setBlock, goInt]
  ·simp [Instr.mapUpdate, run_underlying ht, MapKept.run_getObj_map hb, K.check w false hkey, h1, MapKept.run_setObj_map _ hb, Result.andThen, ChangeMaps.setBlock]
 ·have hj : es[j]? = some e0 := by simpa using h2
  have hm : es.modify j (fun x => { x with key := key }) = es.modify j (fun x => { x with key := key, val := e0.val }) := by
   apply Array.ext_getElem?
   intro i
   simp only [Array.getElem?_modify]
   by_cases hi : j = i
   ·subst hi; simp [hj]
   ·simp [hi]
  refine ⟨e0.val, e0.born, ChangeMaps.setBlock w b (.map (es.modify j (fun x => { x with key := key })) clock), ?_, ?_, ?_⟩
  ·simp [Instr.lookup, run_underlying ht, MapKept.run_getObj_map hb, K.check w es.isEmpty hkey, h1, hz, Result.andThen]
  ·simp [Instr.mapEntry, run_underlying ht, MapKept.run_getObj_map hb, K.check w false hkey, h1, hj, h3, K.stays w hkey, MapKept.run_setObj_map _ hb, Result.andThen, ChangeMaps.setBlock, goInt]
  ·rw [hm]
   simp [Instr.mapUpdate, run_underlying ht, MapKept.run_getObj_map hb, K.check w false hkey, h1, hj, h3, K.stays w hkey, MapKept.run_setObj_map _ hb, Result.andThen, ChangeMaps.setBlock]
theorem entry_store {H : Type} {P : Program} {w : World} {t k e : TypeId} {b n : Nat} {D : DataW H} (h : w.ownsMap P k (plainElem P e) b n D) (A : KeyLaw P k) (ht : P.underlying t = some (.map k e)) (he : P.underlying e = some (.int .i64)) (hn : n + 1 < maxLen) (hz : ∀ u : World, (zeroValue e).run P u = .ok (.int .i64 0) u) {key : Value} {kl : Lit} {c x : Int} (hw : (Lit.int .i64 c).wf = true) (hx : (Lit.int .i64 x).wf = true) (hD : Maps.IsMap D) (hkl : WideAt.IsKeyLit kl) (hkey : keyOf P k key = some kl) (hl : (Instr.lookup t (.map (some b)) key false).run P w = .ok (.int .i64 c) w) :
  ∃ (st : Nat) (w1 w2 : World), (Instr.mapEntry t (.map (some b)) key).run P w = .ok (.tuple #[.int .i64 c, .int .i64 st]) w1 ∧ (Instr.lookup t (.map (some b)) key false).run P w1 = .ok (.int .i64 c) w1 ∧ (Instr.entryStore t (.map (some b)) (.int .i64 st) (.int .i64 x)).run P w1 = .ok () w2 ∧ w2.ownsMap P k (plainElem P e) b (n + 1) (D.put kl (.lit (.int .i64 x))) ∧ w.grownBy w2 (some b) ∧ w.grownBy w1 (some b) := by
 obtain ⟨w', hrun, ho, hg⟩ := h.update (Keyed.of_law A) ht (by omega) hkey (plainElem_int he hx)
 obtain ⟨w3, hrun3, ho3, hg3⟩ := h.update (Keyed.of_law A) ht (by omega) hkey (plainElem_int he hw)
 obtain ⟨es, clock, hb, F, _, _⟩ := h
 obtain ⟨v, st, w1, e1, e2, e3⟩ := entry_update A ht hz hb F hkey
 rw [hl] at e1
 injection e1 with e1 _
 subst e1
 rw [hrun3] at e3
 injection e3 with _ e3
 subst e3
 obtain ⟨v0, st', es1, clock1, h1, _, h3⟩ := WideElems.entry_then_store A ht hz hb F hkey
 rw [e2] at h1
 injection h1 with h1 h1'
 have est : st' = st := by
  injection h1 with h1
  have := congrArg (fun a : Array Value => a[1]?) h1
  simp [goInt] at this
  omega
 subst est
 obtain ⟨es', clock', h4, h5⟩ := h3 w3 (.int .i64 x) (by rw [h1']; exact ChangeMaps.heap_setBlock_same hb _)
 rw [hrun] at h5
 injection h5 with _ h6
 have e : ChangeMaps.setBlock w3 b (.map es' clock') = w' := by
  rw [h6, h1']
  simp [ChangeMaps.setBlock]
 rw [e] at h4
 obtain ⟨c', hc1, hc2, _⟩ := ho3.lookup_int (Keyed.of_law A) ht he (hz _) hkey
 rw [Maps.atKey_put_same hD hkl] at hc2
 have ec : c' = c := by injection hc2 with hc2; injection hc2 with _ hc2; exact hc2.symm
 rw [ec] at hc1
 exact ⟨_, w3, w', e2, hc1, h4, ho, hg, hg3⟩
/-! ### counted pairs -/
def lt (x y : ByteArray) : Prop := x.data.toList < y.data.toList
instance (x y : ByteArray) : Decidable (lt x y) := inferInstanceAs (Decidable (x.data.toList < y.data.toList))
theorem lt_irr {x : ByteArray} : ¬ lt x x := List.lt_irrefl _
theorem lt_tr {x y z : ByteArray} (h1 : lt x y) (h2 : lt y z) : lt x z := List.lt_trans h1 h2
theorem lt_tot {x y : ByteArray} (h1 : ¬ lt x y) (h2 : ¬ lt y x) : x = y := by
 have := List.le_antisymm (List.not_lt.1 h2) (List.not_lt.1 h1)
 cases x; cases y
 congr 1
 exact Array.toList_inj.1 this
theorem lt_nil {x : ByteArray} : ¬ lt x ⟨#[]⟩ := List.not_lt_nil _
def plt (x y a b : ByteArray) : Prop := lt x a ∨ (x = a ∧ lt y b)
theorem plt_irr {x y : ByteArray} : ¬ plt x y x y := fun h => h.elim lt_irr fun h => lt_irr h.2
theorem plt_tr {x y a b c d : ByteArray} (h1 : plt x y a b) (h2 : plt a b c d) : plt x y c d := by
 rcases h1 with h1 | ⟨rfl, h1⟩
 ·rcases h2 with h2 | ⟨rfl, h2⟩
  ·exact .inl (lt_tr h1 h2)
  ·exact .inl h1
 ·rcases h2 with h2 | ⟨rfl, h2⟩
  ·exact .inl h2
  ·exact .inr ⟨rfl, lt_tr h1 h2⟩
theorem plt_tot {x y a b : ByteArray} (h1 : ¬ plt x y a b) (h2 : ¬ plt a b x y) : x = a ∧ y = b := by
 have e : x = a := lt_tot (fun h => h1 (.inl h)) (fun h => h2 (.inl h))
 subst e
 exact ⟨rfl, lt_tot (fun h => h1 (.inr ⟨rfl, h⟩)) (fun h => h2 (.inr ⟨rfl, h⟩))⟩
theorem plt_nil {x y : ByteArray} : ¬ plt x y ⟨#[]⟩ ⟨#[]⟩ := fun h => h.elim lt_nil fun h => lt_nil h.2
abbrev St := ByteArray × ByteArray × Int
def better (x y : ByteArray) (n : Int) (s : St) : Prop := s.2.2 < n ∨ (n = s.2.2 ∧ plt x y s.1 s.2.1)
theorem better_irr {x y : ByteArray} {n : Int} : ¬ better x y n (x, y, n) := fun h => h.elim (fun h => Int.lt_irrefl _ h) fun h => plt_irr h.2
theorem better_tr {x y a b : ByteArray} {n m : Int} {s : St} (h1 : better x y n (a, b, m)) (h2 : better a b m s) : better x y n s := by
 rcases h1 with h1 | ⟨rfl, h1⟩
 ·rcases h2 with h2 | ⟨rfl, h2⟩
  ·exact .inl (Int.lt_trans h2 h1)
  ·exact .inl h1
 ·rcases h2 with h2 | ⟨h2, h3⟩
  ·exact .inl h2
  ·exact .inr ⟨h2, plt_tr h1 h3⟩
theorem better_tot {x y a b : ByteArray} {n m : Int} (h1 : ¬ better x y n (a, b, m)) (h2 : ¬ better a b m (x, y, n)) : x = a ∧ y = b ∧ n = m := by
 have e : n = m := by
  have k1 : ¬ m < n := fun h => h1 (.inl h)
  have k2 : ¬ n < m := fun h => h2 (.inl h)
  omega
 subst e
 obtain ⟨h3, h4⟩ := plt_tot (fun h => h1 (.inr ⟨rfl, h⟩)) (fun h => h2 (.inr ⟨rfl, h⟩))
 exact ⟨h3, h4, rfl⟩
def hits (l : List ByteArray) (x y : ByteArray) : Nat → Int
 | 0 => 0
 | n + 1 => hits l x y n + (if n + 1 < l.length ∧ l.getD n ByteArray.empty = x ∧ l.getD (n + 1) ByteArray.empty = y then 1 else 0)
theorem hits_bounds (l : List ByteArray) (x y : ByteArray) : ∀ n, 0 ≤ hits l x y n ∧ hits l x y n ≤ n
 | 0 => by unfold hits; omega
 | n + 1 => by
  have := hits_bounds l x y n
  unfold hits
  split <;> omega
def cnt (l : List ByteArray) (x y : ByteArray) : Int := hits l x y (l.length - 1)
def beq2 (x y : ByteArray) : Bool := decide (x.data.toList < y.data.toList)
def pick (l : List ByteArray) (s : St) (x y : ByteArray) : St := if s.2.2 < cnt l x y ∨ (cnt l x y = s.2.2 ∧ (x.data.toList < s.1.data.toList ∨ (x = s.1 ∧ y.data.toList < s.2.1.data.toList))) then (x, y, cnt l x y) else s
theorem pick_iff (l : List ByteArray) (s : St) (x y : ByteArray) : (better x y (cnt l x y) s → pick l s x y = (x, y, cnt l x y)) ∧ (¬ better x y (cnt l x y) s → pick l s x y = s) := ⟨fun h => if_pos h, fun h => if_neg h⟩
def bestN (l : List ByteArray) : Nat → St
 | 0 => (⟨#[]⟩, ⟨#[]⟩, 0)
 | n + 1 => pick l (bestN l n) (l.getD n ByteArray.empty) (l.getD (n + 1) ByteArray.empty)
def bestOf (l : List ByteArray) : St := bestN l (l.length - 1)
def Src (l : List ByteArray) (s : St) : Prop := s = (⟨#[]⟩, ⟨#[]⟩, 0) ∨ (0 < s.2.2 ∧ s.2.2 = cnt l s.1 s.2.1)
theorem cnt_nonneg (l : List ByteArray) (x y : ByteArray) : 0 ≤ cnt l x y := (hits_bounds l x y _).1
theorem src_pos {l : List ByteArray} {s : St} (h : Src l s) : 0 ≤ s.2.2 := by
 rcases h with rfl | h
 ·exact Int.le_refl _
 ·omega
theorem src_pick {l : List ByteArray} {s : St} (h : Src l s) (x y : ByteArray) (hb : better x y (cnt l x y) s) : Src l (x, y, cnt l x y) := by
 refine .inr ⟨?_, rfl⟩
 have h0 := src_pos h
 rcases hb with hb | ⟨e, hb⟩
 ·exact Int.lt_of_le_of_lt h0 hb
 ·rcases h with rfl | h
  ·exact absurd hb plt_nil
  ·show 0 < cnt l x y
   rw [e]; exact h.1
theorem not_better_mono {l : List ByteArray} {s : St} {x y a b : ByteArray} (h : ¬ better a b (cnt l a b) s) : ¬ better a b (cnt l a b) (pick l s x y) := by
 by_cases hb : better x y (cnt l x y) s
 ·rw [(pick_iff l s x y).1 hb]
  exact fun h2 => h (better_tr h2 hb)
 ·rw [(pick_iff l s x y).2 hb]
  exact h
theorem not_better_own {l : List ByteArray} {s : St} {x y : ByteArray} : ¬ better x y (cnt l x y) (pick l s x y) := by
 by_cases hb : better x y (cnt l x y) s
 ·rw [(pick_iff l s x y).1 hb]
  exact better_irr
 ·rw [(pick_iff l s x y).2 hb]
  exact hb
theorem src_pick' {l : List ByteArray} {s : St} (h : Src l s) (x y : ByteArray) : Src l (pick l s x y) := by
 by_cases hb : better x y (cnt l x y) s
 ·rw [(pick_iff l s x y).1 hb]; exact src_pick h x y hb
 ·rw [(pick_iff l s x y).2 hb]; exact h
theorem bestN_src (l : List ByteArray) : ∀ n, Src l (bestN l n)
 | 0 => .inl rfl
 | n + 1 => src_pick' (bestN_src l n) _ _
theorem bestN_top (l : List ByteArray) : ∀ n j, j < n → ¬ better (l.getD j ByteArray.empty) (l.getD (j + 1) ByteArray.empty) (cnt l (l.getD j ByteArray.empty) (l.getD (j + 1) ByteArray.empty)) (bestN l n)
 | n + 1, j, h => by
  unfold bestN
  rcases Nat.lt_or_ge j n with h1 | h1
  ·exact not_better_mono (bestN_top l n j h1)
  ·rw [show j = n by omega]; exact not_better_own
theorem hits_find (l : List ByteArray) (x y : ByteArray) : ∀ n, 0 < hits l x y n → ∃ j, j < n ∧ l.getD j ByteArray.empty = x ∧ l.getD (j + 1) ByteArray.empty = y
 | 0, h => absurd h (by unfold hits; omega)
 | n + 1, h => by
  unfold hits at h
  split at h
  ·rename_i hc
   exact ⟨n, by omega, hc.2⟩
  ·obtain ⟨j, h1, h2⟩ := hits_find l x y n (by omega)
   exact ⟨j, by omega, h2⟩
theorem cnt_find {l : List ByteArray} {x y : ByteArray} (h : 0 < cnt l x y) : ∃ j, j < l.length - 1 ∧ l.getD j ByteArray.empty = x ∧ l.getD (j + 1) ByteArray.empty = y := hits_find l x y _ h
theorem best_only {l : List ByteArray} {s : St} (h1 : Src l s) (h2 : ∀ x y, ¬ better x y (cnt l x y) s) : s = bestOf l := by
 have g1 := bestN_src l (l.length - 1)
 have g2 : ∀ x y, 0 < cnt l x y → ¬ better x y (cnt l x y) (bestOf l) := fun x y h => by
  obtain ⟨j, hj, rfl, rfl⟩ := cnt_find h
  exact bestN_top l _ j hj
 obtain ⟨t, ht⟩ : ∃ t, t = bestOf l := ⟨_, rfl⟩
 rw [show bestN l (l.length - 1) = t from ht.symm] at g1
 rw [← ht] at g2 ⊢
 obtain ⟨a, b, n⟩ := s
 obtain ⟨c, d, m⟩ := t
 rcases h1 with h1 | ⟨p1, q1⟩
 ·rcases g1 with g1 | ⟨p2, q2⟩
  ·rw [h1, g1]
  ·have k := h2 c d
   rw [← q2, h1] at k
   exact absurd (.inl p2) k
 ·have q1' : n = cnt l a b := q1
  have p1' : 0 < n := p1
  rcases g1 with g1 | ⟨p2, q2⟩
  ·have k := g2 a b (by omega)
   rw [← q1', g1] at k
   exact absurd (.inl p1') k
  ·have q2' : m = cnt l c d := q2
   have k1 := g2 a b (by omega)
   have k2 := h2 c d
   rw [← q1'] at k1
   rw [← q2'] at k2
   obtain ⟨e1, e2, e3⟩ := better_tot k1 k2
   rw [e1, e2, e3]
end Go.Proofs.YtidlgfgadiknfaaW.GBst
