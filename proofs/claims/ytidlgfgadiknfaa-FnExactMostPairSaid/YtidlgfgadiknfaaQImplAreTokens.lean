-- Written for the seat Ytidlgfgadiknfaa by a program of this session (wip/tool/gx.py) out of the translation. Lean checks it.
import Derived.Test.YtidlgfgadiknfaaQ0
import Derived.Test.YtidlgfgadiknfaaQBLawsSzStringS
import Derived.Shelf.SlicesE.IndexFunc
import Derived.Ground.SlgfProg
import Derived.Lib.SliceRun
import Derived.Test.YtidlgfgadiknfaaWFoot
import Derived.Test.YtidlgfgadiknfaaWKept
import Derived.Test.YtidlgfgadiknfaaWShare
namespace Go.Proofs.Ytidlgfgadiknfaa.Q
open Go.RowKit Go.Proofs.YtidlgfgadiknfaaW.PrintWords Go.Proofs.YtidlgfgadiknfaaW.PrintLast Go.Proofs.YtidlgfgadiknfaaW.PrintMore
attribute [local go_sem] max2_int min2_int max_two min_two max_three min_three max_four min_four   -- for this text's walks alone
set_option linter.unusedVariables false
set_option linter.unusedSimpArgs false

/-! ### impl_areTokens: function 10 -/
def impl_areTokens.all (k : Nat) : List ByteArray → Option Bool
  | [] => some true
  | s :: l => (impl_IsGloss.f k s).bind fun b => (impl_areTokens.all k l).bind fun c => some (b && c)
def impl_areTokens.f (k : Nat) (l0 : List ByteArray) : Option Bool := if (l0.length : Int) ≤ 120 then impl_areTokens.all k l0 else some false
theorem impl_areTokens.all_mono : ∀ l k, LeO (impl_areTokens.all k l) (impl_areTokens.all (k + 1) l)
  | [], k => LeO.refl _
  | s :: l, k => by
    unfold impl_areTokens.all
    exact LeO.bind (impl_IsGloss.mono _ _) fun _ => LeO.bind (impl_areTokens.all_mono l k) fun _ => LeO.refl _
theorem impl_areTokens.mono : ∀ a0 k, LeO (impl_areTokens.f k a0) (impl_areTokens.f (k + 1) a0) := by
  intro a0 k
  unfold impl_areTokens.f
  exact LeO.ite (impl_areTokens.all_mono _ _) (LeO.refl _)

set_option maxHeartbeats 1000000
set_option maxRecDepth 100000
end Go.Proofs.Ytidlgfgadiknfaa.Q
namespace Go.Proofs
open Go.Shelf
shelf_lay_g SlLaysH.n8 Slgf 8 at Try 17 as Try.laysC17
end Go.Proofs
namespace Go.Proofs.Ytidlgfgadiknfaa.Q
open Go.RowKit Go.Lib Go.Proofs.YtidlgfgadiknfaaW.PrintWords Go.Proofs.YtidlgfgadiknfaaW.PrintLast Go.Proofs.YtidlgfgadiknfaaW.PrintMore
set_option linter.unusedVariables false
set_option linter.unusedSimpArgs false
theorem impl_areTokens.all_some {k : Nat} : ∀ {l : List ByteArray} {r : Bool}, impl_areTokens.all k l = some r → (∀ s, s ∈ l → ∃ b, impl_IsGloss.f k s = some b) ∧ r = !(l.any fun s => !(impl_IsGloss.f k s == some true))
  | [], r, h => by
    obtain rfl := Option.some.inj h
    exact ⟨fun s hs => absurd hs (by simp), rfl⟩
  | s :: l, r, h => by
    unfold impl_areTokens.all at h
    cases hb : impl_IsGloss.f k s with
    | none => rw [hb] at h; cases h
    | some b =>
      cases hc : impl_areTokens.all k l with
      | none => rw [hb, hc] at h; cases h
      | some c =>
        rw [hb, hc] at h
        obtain rfl := Option.some.inj h
        obtain ⟨h1, h2⟩ := impl_areTokens.all_some hc
        refine ⟨fun x hx => ?_, ?_⟩
        · rcases List.mem_cons.1 hx with rfl | hx
          · exact ⟨b, hb⟩
          · exact h1 x hx
        · rw [h2, List.any_cons, hb]
          cases b <;> simp
/-- The texts at which the predicate answers within so many rounds. -/
structure impl_areTokens.T (k : Nat) where
  s : ByteArray
  h : ∃ b, impl_IsGloss.f k s = some b
set_option maxHeartbeats 400000 in
theorem impl_areTokens.pred (k B : Nat) (w : World) (hB : B < w.heap.size) (hcell : w.cell? ⟨B, 0, none⟩ = some (.func (.func 14) #[] #[])) :
    PredAt Try.prog 18 #[.pointer (some ⟨B, 0, none⟩)] (fun x : impl_areTokens.T k => Value.string x.s) (fun x => !(impl_IsGloss.f k x.s == some true)) w := fun W x hb => by
  have hc : W.cell? ⟨B, 0, none⟩ = some (.func (.func 14) #[] #[]) := (hb.cell (p := ⟨B, 0, none⟩) hB).trans hcell
  obtain ⟨r, hr⟩ := x.h
  have e14 : ∀ args w, (callFunc 14 args).run Try.prog w = .ok (.enter 14 args) w := enters_of Try.func14 (by kernel_rfl) rfl
  show Calls Try.prog 18 #[.string x.s, .pointer (some ⟨B, 0, none⟩)] W _
  have hcon := impl_IsGloss.calls k x.s r
  have er : (!(impl_IsGloss.f k x.s == some true)) = !r := by rw [hr]; cases r <;> rfl
  show Calls Try.prog 18 #[.string x.s, .pointer (some ⟨B, 0, none⟩)] W fun e w' => e = .returned (.bool (!(impl_IsGloss.f k x.s == some true))) ∧ ∃ q, w' = W.drewN q
  rw [er]
  generalize x.s = s at hr hcon ⊢
  go_enter Try.func18, Try.ntmps18
  go_wp2_with (go_at_fn 14; refine (hcon _ hr).mono ?_; rintro e w' ⟨rfl, ⟨q, rfl⟩⟩)
  go_ret
  exact ⟨rfl, _, rfl⟩
theorem impl_areTokens.cells {w : World} {A : Option Addr} {n : Nat} {xs : List ByteArray} (h : Kd.C Kd.string w A n xs) (hn : 0 < n) : ∃ b off, A = some ⟨b, off, none⟩ ∧ ∀ j, j < n → w.cell? ⟨b, off + j, none⟩ = some (.string (xs.getD j ByteArray.empty)) := by
  obtain ⟨⟨b, off, sp⟩, rfl, h0⟩ := Kd.at_string h 0 (by omega) (by omega)
  have e0 : (⟨b, off, sp⟩ : Addr).add 0 = ⟨b, off, sp⟩ := by simp [Addr.add]
  have hs : sp = none := by
    have := World.cell?_spot (show w.cell? ⟨b, off, sp⟩ = _ by rw [← e0]; exact h0)
    exact this
  subst hs
  refine ⟨b, off, rfl, fun j hj => ?_⟩
  have h1 := Kd.foot_string h (j : Int) (by omega) (by omega)
  have e1 : (⟨b, off, none⟩ : Addr).add ((j : Int)).toNat = ⟨b, off + j, none⟩ := by unfold Addr.add; split <;> simp_all
  rw [e1] at h1
  rw [h1]
  simp [rdOf]
set_option maxHeartbeats 1000000 in
theorem impl_areTokens.allOf_calls (k : Nat) (A0 : Option Addr) (c0 : Nat) (l0 : List ByteArray) (r : Bool) (w : World) (hr0 : Kd.C Kd.string w A0 l0.length l0) (hl : l0.length ≤ 9223372036854775807) (h : impl_areTokens.all k l0 = some r) :
    Calls Try.prog 13 #[.slice A0 l0.length c0, .func (.func 14) #[] #[]] w fun e w' => e = .returned (.bool r) ∧ Below w.heap.size w w' := by
  obtain ⟨hs, rfl⟩ := impl_areTokens.all_some h
  have e17 : ∀ args w, (callFunc 17 args).run Try.prog w = .ok (.enter 17 args) w := enters_of Try.func17 (by kernel_rfl) rfl
  have eg : ∀ args w, (callFunc 18 args).run Try.prog w = .ok (.enter 18 args) w := enters_of Try.func18 (by kernel_rfl) rfl
  by_cases h0 : l0 = []
  · subst h0
    have hcon := AnyE.slices_ContainsFunc_empty Try.laysC17 A0 c0
    change ∀ fv w, Calls Try.prog 17 _ _ _ at hcon
    go_enter Try.func13, Try.ntmps13
    go_wp2_with (go_at_call 17; refine (hcon _ _).mono ?_; rintro e w' ⟨rfl, rfl⟩)
    go_ret
    exact ⟨rfl, (Below.refl _ w).alloc (Nat.le_refl _) _⟩
  · have hpos : 0 < l0.length := List.length_pos_iff.2 h0
    obtain ⟨b, off, rfl, hcell⟩ := impl_areTokens.cells hr0 hpos
    have hatt : ∀ s : {s // s ∈ l0}, ∃ b, impl_IsGloss.f k s.1 = some b := fun s => hs s.1 s.2
    let zs : List (impl_areTokens.T k) := l0.attach.map fun s => impl_areTokens.T.mk s.1 (hatt s)
    have hzl : zs.length = l0.length := by simp [zs]
    haveI : Inhabited (impl_areTokens.T k) := ⟨impl_areTokens.T.mk l0[0] (hs _ (List.getElem_mem hpos))⟩
    have hzv : ∀ j (hj : j < l0.length), (zs[j]!).s = l0.getD j ByteArray.empty := by
      intro j hj
      rw [getElem!_pos zs j (by rw [hzl]; exact hj)]
      simp [zs, List.getD_eq_getElem?_getD, List.getElem?_eq_getElem hj]
    have hcon := AnyE.slices_ContainsFunc Try.laysC17 (fun x : impl_areTokens.T k => Value.string x.s) (fun x => !(impl_IsGloss.f k x.s == some true)) 18 #[.pointer (some ⟨w.heap.size, 0, none⟩)] eg b off l0.length c0 zs (w.alloc (.cells #[.func (.func 14) #[] #[]] 32))
      (impl_areTokens.pred k w.heap.size _ (by simp) (by simp)) (by omega) hl
      (fun j hj => Lib.cell?_alloc_some _ (by rw [hzv j (by omega)]; exact hcell j (by omega)))
    have hany : ((zs.take l0.length).any fun x => !(impl_IsGloss.f k x.s == some true)) = l0.any fun s => !(impl_IsGloss.f k s == some true) := by
      rw [← hzl, List.take_length, List.any_map]
      conv => rhs; rw [← List.attach_map_subtype_val l0, List.any_map]
      rfl
    rw [hany] at hcon
    change Calls Try.prog 17 _ _ _ at hcon
    clear hzv hzl hcell hr0
    generalize (l0.any fun s => !(impl_IsGloss.f k s == some true)) = r at hcon ⊢
    go_enter Try.func13, Try.ntmps13
    go_wp2_with (go_at_call 17; refine hcon.mono ?_; rintro e w' ⟨rfl, q, rfl⟩)
    go_ret
    exact ⟨rfl, below_drewN' ((Below.refl _ w).alloc (Nat.le_refl _) _) q⟩
set_option maxHeartbeats 1000000 in
theorem impl_areTokens.calls (k : Nat) (A0 : Option Addr) (c0 : Nat) (l0 : List ByteArray) (r : Bool) (w : World) (hr0 : Kd.C Kd.string w A0 l0.length l0) (hc0 : l0.length ≤ c0) (h : impl_areTokens.f k l0 = some r) :
    Calls Try.prog 10 #[.slice A0 l0.length c0] w fun e w' => e = .returned (.bool r) ∧ Below w.heap.size w w' := by
  unfold impl_areTokens.f at h
  by_cases hl : (l0.length : Int) ≤ 120
  · rw [if_pos hl] at h
    have hcon := impl_areTokens.allOf_calls k A0 c0 l0 r w hr0 (by omega) h
    clear hr0 h
    have hd : decide ((l0.length : Int) ≤ 120) = true := decide_eq_true hl
    go_enter Try.func10, Try.ntmps10
    go_wp2_with (go_at_call 13; refine hcon.mono ?_; rintro e w' ⟨rfl, hb⟩)
    go_ret
    exact ⟨rfl, hb⟩
  · rw [if_neg hl] at h
    obtain rfl := Option.some.inj h
    have hd : decide ((l0.length : Int) ≤ 120) = false := decide_eq_false hl
    go_enter Try.func10, Try.ntmps10
    go_wp2
    go_ret
    exact ⟨rfl, Below.refl _ _⟩


end Go.Proofs.Ytidlgfgadiknfaa.Q
