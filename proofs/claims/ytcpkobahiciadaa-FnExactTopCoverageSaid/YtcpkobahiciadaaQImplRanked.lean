-- Written for the seat Ytcpkobahiciadaa by a program of this session (wip/tool/gx.py) out of the translation. Lean checks it.
import Derived.Test.YtcpkobahiciadaaQ0
import Derived.Test.YtcpkobahiciadaaQBSlicesCloneString
import Derived.Test.YtcpkobahiciadaaQBSlicesStableCmpFuncString
import Derived.Maps.OwnOps
import Derived.Maps.Views
import Derived.StringKeys
import Derived.Test.YtcpkobahiciadaaGDel
import Derived.Test.YtcpkobahiciadaaGCmp
import Derived.Test.YtcpkobahiciadaaWFoot
import Derived.Test.YtcpkobahiciadaaWKept
import Derived.Test.YtcpkobahiciadaaWShare
namespace Go.Proofs.Ytcpkobahiciadaa.Q
open Go.RowKit Go.Proofs.YtcpkobahiciadaaW.PrintWords Go.Proofs.YtcpkobahiciadaaW.PrintLast Go.Proofs.YtcpkobahiciadaaW.PrintMore
attribute [local go_sem] max2_int min2_int max_two min_two max_three min_three max_four min_four   -- for this text's walks alone
set_option linter.unusedVariables false
set_option linter.unusedSimpArgs false

/-! ### impl_ranked: function 91 -/
def impl_ranked.cnt (l : List ByteArray) (g : ByteArray) : Int := ((l.filter fun s => decide (s.data.toList = g.data.toList)).length : Int)
def impl_ranked.cmp (l : List ByteArray) (x y : ByteArray) : Option Int := if x.size ≤ 1048576 then (if y.size ≤ 1048576 then some (wrap64 (impl_ranked.cnt l y - impl_ranked.cnt l x)) else none) else none
def impl_ranked.f (k : Nat) (l0 : List ByteArray) : Option (List ByteArray) := if l0.length ≤ 1048576 then (if (l0.all fun s => decide (s.size ≤ 1048576)) = true then ((impl_distinct_string.f l0).bind fun d => slices_SortStableFunc_string.f (impl_ranked.cmp l0) k d 0) else none) else none
theorem impl_ranked.mono : ∀ a0 k, LeO (impl_ranked.f k a0) (impl_ranked.f (k + 1) a0) := by
 intro a0 k
 unfold impl_ranked.f
 exact LeO.ite (LeO.ite (LeO.bind (LeO.refl _) fun _ => slices_SortStableFunc_string.mono _ _ _) (LeO.none _)) (LeO.none _)
set_option maxHeartbeats 1000000
end Go.Proofs.Ytcpkobahiciadaa.Q
namespace Go.Proofs.Ytcpkobahiciadaa.Q
open Go Go.RowKit Go.Lib Go.Maps Go.WideMaps Go.Proofs.YtcpkobahiciadaaW.PrintWords Go.Proofs.YtcpkobahiciadaaW.PrintLast Go.Proofs.YtcpkobahiciadaaW.PrintMore Go.Proofs.YtcpkobahiciadaaW Go.Proofs.Ytcpkobahiciadaa.Q
set_option linter.unusedVariables false
set_option linter.unusedSimpArgs false
theorem impl_ranked.law : Keyed Try.prog 9 := string_keyed Try.underlying9
theorem impl_ranked.cnt_step (l : List ByteArray) (j : Nat) (h : j < l.length) (g : ByteArray) : impl_ranked.cnt (l.take (j + 1)) g = impl_ranked.cnt (l.take j) g + (if l[j].data.toList = g.data.toList then 1 else 0) := by
 unfold impl_ranked.cnt
 rw [List.take_succ_eq_append_getElem h, List.filter_append, List.length_append]
 by_cases e : l[j].data.toList = g.data.toList
 ·have h1 : ([l[j]].filter fun s => decide (s.data.toList = g.data.toList)) = [l[j]] := List.filter_cons_of_pos (p := fun s : ByteArray => decide (s.data.toList = g.data.toList)) (decide_eq_true e)
  rw [if_pos e, h1, List.length_singleton]
  omega
 ·have h1 : ([l[j]].filter fun s => decide (s.data.toList = g.data.toList)) = [] := List.filter_cons_of_neg (p := fun s : ByteArray => decide (s.data.toList = g.data.toList)) (by rw [decide_eq_true_eq]; exact e)
  rw [if_neg e, h1, List.length_nil]
  omega
theorem impl_ranked.cnt_le (l : List ByteArray) (g : ByteArray) : 0 ≤ impl_ranked.cnt l g ∧ impl_ranked.cnt l g ≤ l.length := by
 unfold impl_ranked.cnt
 have := List.length_filter_le (fun s : ByteArray => decide (s.data.toList = g.data.toList)) l
 omega
/-- What the map holds: how often each text is there. -/
def impl_ranked.Holds (l : List ByteArray) (D : DataW Unit) : Prop := Maps.IsMap D ∧ ∀ g : ByteArray, D.atKey (.string g.data.toList) (.lit (.int .i64 0)) = .lit (.int .i64 (impl_ranked.cnt l g))
set_option maxHeartbeats 1000000 in
set_option maxRecDepth 100000 in
theorem impl_ranked.lit (l : List ByteArray) (D : DataW Unit) (hD : impl_ranked.Holds l D) (MB BX n : Nat) (wA W : World) (hown : wA.ownsMap Try.prog 9 (plainElem Try.prog 3) MB n D) (hbx : wA.cell? ⟨BX, 0, none⟩ = some (.map (some MB))) (hb : Below wA.heap.size wA W) (x y : ByteArray) (b : Int) (hp : impl_ranked.cmp l x y = some b) :
  Calls Try.prog 115 (#[.string x, .string y] ++ #[.pointer (some ⟨BX, 0, none⟩)]) W fun e w' => e = .returned (.int .i64 b) ∧ Below W.heap.size W w' := by
 unfold impl_ranked.cmp at hp
 split at hp
 ·rename_i hx
  split at hp
  ·rename_i hy
   obtain rfl := Option.some.inj hp
   have hlt : BX < wA.heap.size := World.block_lt_of_cell? wA _ hbx
   have hc : W.cell? ⟨BX, 0, none⟩ = some (.map (some MB)) := (hb.cell (p := ⟨BX, 0, none⟩) hlt).trans hbx
   have hW := hown.kept (GDel.grownBy_below none hb) (by simp)
   have hkx : keyOf Try.prog 9 (.string x) = some (.string x.data.toList) := keyOf_string_mk Try.underlying9 (Nat.le_trans hx (by decide))
   have hky : keyOf Try.prog 9 (.string y) = some (.string y.data.toList) := keyOf_string_mk Try.underlying9 (Nat.le_trans hy (by decide))
   obtain ⟨cx, hrx, hax, _⟩ := hW.lookup_int impl_ranked.law Try.underlying121 Try.underlying3 (Try.zeroValue3 _) hkx
   obtain ⟨cy, hry, hay, _⟩ := hW.lookup_int impl_ranked.law Try.underlying121 Try.underlying3 (Try.zeroValue3 _) hky
   have ex : cx = impl_ranked.cnt l x := by have := hax.symm.trans (hD.2 x); injection this with h1; injection h1
   have ey : cy = impl_ranked.cnt l y := by have := hay.symm.trans (hD.2 y); injection this with h1; injection h1
   rw [← ex, ← ey]
   clear ex ey hax hay hkx hky hW hb hown hbx hlt hx hy hp hD
   show Calls Try.prog 115 #[.string x, .string y, .pointer (some ⟨BX, 0, none⟩)] W _
   go_enter Try.func115, Try.ntmps115
   go_wp2
   go_ret
   exact ⟨rfl, Below.refl _ _⟩
  ·cases hp
 ·cases hp
set_option maxHeartbeats 2000000 in
set_option maxRecDepth 100000 in
theorem impl_ranked.calls (k : Nat) (A0 : Option Addr) (c0 : Nat) (l0 : List ByteArray) (r : List ByteArray) (w : World) (hr0 : Kd.C Kd.string w A0 l0.length l0) (hc0 : l0.length ≤ c0) (h : impl_ranked.f k l0 = some r) :
  Calls Try.prog 91 #[.slice A0 l0.length c0] w fun e w' => ∃ v0_ : Value, e = .returned v0_ ∧ Kd.R Kd.string 9 w' w.heap.size (fun _ => True) v0_ r ∧ Below w.heap.size w w' := by
 unfold impl_ranked.f at h
 split at h
 ·rename_i hlen
  split at h
  ·rename_i hall
   cases hd : impl_distinct_string.f l0 with
   | none => rw [hd] at h; cases h
   | some d =>
    rw [hd] at h
    have h : slices_SortStableFunc_string.f (impl_ranked.cmp l0) k d 0 = some r := h
    have HD := Aside0.mk (fun W' (hb' : Below w.heap.size w W') => impl_distinct_string.calls A0 c0 l0 d W' (Kd.C_below hr0 hb') hc0 hd)
    have HR := Aside0.mk hr0
    have HS := Aside0.mk (fun s hs => of_decide_eq_true (List.all_eq_true.1 hall s hs) : ∀ s, s ∈ l0 → s.size ≤ 1048576)
    have HH := Aside0.mk h
    have HL := Aside0.mk hlen
    clear hr0 hall hd h hlen
    have hmm := @run_makeMap Try.prog
    go_enter Try.func91, Try.ntmps91
    go_wp2
    go_loopg [10] l0.length (fun gg v10 wr => ∃ (j : Nat) (D : DataW Unit), j ≤ l0.length ∧ l0.length - j ≤ gg ∧ v10 = .int .i64 j ∧ Aside0 (wr.ownsMap Try.prog 9 (plainElem Try.prog 3) w.heap.size j D) ∧ Aside0 (impl_ranked.Holds (l0.take j) D) ∧ Aside0 (Below w.heap.size w wr) ∧ wr.cell? ⟨w.heap.size + 1, 0, none⟩ = some (.map (some w.heap.size)) ∧ Aside0 (w.heap.size + 1 < wr.heap.size))
    case atStart => exact ⟨0, .map [], Nat.zero_le _, by omega, rfl, ⟨(World.ownsMap_made _ _ _ _).alloc _⟩, ⟨⟨Maps.isMap_empty, fun g => by simp [impl_ranked.cnt]; rfl⟩⟩, ⟨below_alloc (below_alloc (Below.refl _ _) _) _⟩, by simp, ⟨by simp⟩⟩
    case round =>
     obtain ⟨j, D, hj, hgg, rfl, HO, HH2, HB, hbx, HZ⟩ := hrel
     by_cases hlt : j < l0.length
     ·have hltz : (j : Int) < (l0.length : Int) := by omega
      obtain ⟨b, off, hA, hbl, hcell⟩ := GIdx.C_spot HR.out (by omega) (by decide)
      subst hA
      obtain ⟨cs, hcl, hK, hcc⟩ := hcell j _ (List.getElem?_eq_getElem hlt)
      have hK' : cs = [.string l0[j]] := hK
      subst hK'
      have hcx0 := hcc 0 _ rfl
      obtain ⟨s, hs⟩ : ∃ s, s = l0[j] := ⟨_, rfl⟩
      rw [← hs] at hcx0
      have hcx : wr.cell? ⟨b, off + j, none⟩ = some (.string s) := by
       refine (HB.out.cell (p := ⟨b, off + j, none⟩) hbl).trans ?_
       have e_ : off + j * Kd.string.sz + 0 = off + j := by show off + j * 1 + 0 = off + j; omega
       rwa [e_] at hcx0
      have hssz : s.size ≤ 1048576 := by rw [hs]; exact HS.out _ (List.getElem_mem hlt)
      have hkey : keyOf Try.prog 9 (.string s) = some (.string s.data.toList) := keyOf_string_mk Try.underlying9 (Nat.le_trans hssz (by decide))
      obtain ⟨c, hrun, hat, _⟩ := HO.out.lookup_int impl_ranked.law Try.underlying121 Try.underlying3 (Try.zeroValue3 _) hkey
      have hown := HO.out
      have HJ := Aside0.mk (show j < maxLen from by have := HL.out; unfold maxLen; omega)
      have HAT := Aside0.mk hat
      have HSS := Aside0.mk hs
      clear hcell hcc hcx0 hcl hK hs hssz hat
      go_wp2_with (first
       | (at_mapUpdate; refine wpList_mapUpdate_own _ rfl _ _ _ 121 rfl 9 3 impl_ranked.law Try.underlying121 _ w.heap.size j _ rfl hown HJ.out _ _ _ rfl rfl hkey _ [] (plainElem_int Try.underlying3 (wrap64_wf _)) ?_)
       | go_in)
      intro w1 hown1 hgrow1
      have hb1 : Below w.heap.size w w1 := HB.out.grown hgrow1 HB.out.size (fun q hq => by cases hq; exact Nat.le_refl _)
      have hbx1 : w1.cell? ⟨w.heap.size + 1, 0, none⟩ = some (.map (some w.heap.size)) := (World.cell?_of_block (a := ⟨w.heap.size + 1, 0, none⟩) (hgrow1.block _ HZ.out (by simp))).trans hbx
      have HZ1 := Aside0.mk (Nat.lt_of_lt_of_le HZ.out hgrow1.size)
      have HO1 := Aside0.mk hown1
      have HB1 := Aside0.mk hb1
      have hc : c = impl_ranked.cnt (l0.take j) s := by have := HAT.out.symm.trans (HH2.out.2 s); injection this with h1; injection h1
      have hle := impl_ranked.cnt_le (l0.take j) s
      have hlt2 : (l0.take j).length ≤ l0.length := by rw [List.length_take]; omega
      have hw : wrap64 (c + 1) = c + 1 := by have := HL.out; unfold wrap64; omega
      have HD1 : Aside0 (impl_ranked.Holds (l0.take (j + 1)) (D.put (.string s.data.toList) (.lit (.int .i64 (wrap64 (c + 1)))))) := ⟨⟨HH2.out.1.put _ _, fun g => by
       rw [impl_ranked.cnt_step l0 j hlt g, ← HSS.out]
       by_cases e : s.data.toList = g.data.toList
       ·rw [if_pos e, ← e, Maps.atKey_put_same (k := Lit.string s.data.toList) HH2.out.1 trivial, hw, hc]
        have : impl_ranked.cnt (l0.take j) s = impl_ranked.cnt (l0.take j) g := by unfold impl_ranked.cnt; rw [e]
        rw [this]
       ·rw [if_neg e, Maps.atKey_put_other (fun he => e (by injection he with h1; exact h1.symm)), HH2.out.2 g, Int.add_zero]⟩⟩
      clear hown1 hgrow1 hown hrun hcx hb1 hc hle hlt2 hw hbx
      go_wp2
      go_roundg (l0.length - (j + 1))
      case measure => omega
      case rel => have hLL := HL.out; exact ⟨j + 1, _, by omega, by omega, by rw [show wrap64 ((j : Int) + 1) = ((j + 1 : Nat) : Int) from by unfold wrap64; omega], HO1, HD1, HB1, hbx1, HZ1⟩
     ·have hltz : ¬ (j : Int) < (l0.length : Int) := by omega
      obtain rfl : j = l0.length := by omega
      have hh2 := HH2.out
      rw [List.take_length] at hh2
      have HH3 := Aside0.mk hh2
      clear HH2 hh2 hltz
      have HLIT := Aside0.mk (fun (W : World) (hb : Below wr.heap.size wr W) (x y : ByteArray) (b : Int) (hp : impl_ranked.cmp l0 x y = some b) => impl_ranked.lit l0 D HH3.out w.heap.size (w.heap.size + 1) l0.length wr W HO.out hbx hb x y b hp)
      let C_ : Go.Proofs.YtcpkobahiciadaaW.GCmp.CmpS Try.prog wr (impl_ranked.cmp l0) := ⟨115, #[.pointer (some ⟨w.heap.size + 1, 0, none⟩)], enters_of Try.func115 (by kernel_rfl) rfl, fun x y b W hp hb => HLIT.out W hb x y b hp⟩
      go_wp2_with (go_at_call 113; refine (HD.out _ HB.out).mono ?_; rintro e w2 ⟨v0_, rfl, ho, hb2⟩)
      go_wp2_with (go_at_call 114; refine (slices_SortStableFunc_string.calls (impl_ranked.cmp l0) k (fun _ => True) v0_ d 0 r wr C_ w2 hb2 ho HH.out).mono ?_; rintro e w3 ⟨rfl, ho3, hb3, _⟩)
      go_ret
      exact ⟨_, rfl, Kd.R_mono (Kd.R_lower ho3 HB.out.size) (fun _ _ => trivial), HB.out.trans (hb3.mono HB.out.size)⟩
  ·cases h
 ·cases h


end Go.Proofs.Ytcpkobahiciadaa.Q
