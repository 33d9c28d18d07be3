import Derived.Test.YtgnijnlgbelifaaGreatWWords
import Derived.Lib.SmallJoins
set_option linter.unusedVariables false
set_option linter.unusedSimpArgs false
namespace Go.Proofs.YtgnijnlgbelifaaGreat.W.GOpen
open RowKit W.PrintWords ChangeShapes WideShapes
def Fit (P : Program) (t : TypeId) {α : Type} (d : Kd α) (B : α -> Prop) : Prop :=
 d.sz = P.cellsOf t ∧ ∀ (H : Type) (enc : TypeId × Value -> H) (W : World) (base : Nat) (spare : Nat -> Bool) (held : Bool) (fuel : Nat) (cs : List Value) (x : DataW H × List MemPlace),
  DataW.trod enc P W base spare held fuel t cs = some x -> (∀ n ∈ x.1.weights P t,n <= reachBytes) -> ∃ y,d.K W y cs ∧ B y
theorem Eka {P : Program} {t : TypeId} {k : IntKind} (hu : P.underlying t = some (.int k)) (hc : P.cellsOf t = 1) : Fit P t (Kd.int k) (fun n => (Lit.int k n).wf = true) := by
 refine ⟨hc.symm,fun H enc W base spare held fuel cs x h hw => ?_⟩
 obtain ⟨n,rfl,_,hn⟩ := DataW.trod_int hu h
 exact ⟨n,rfl,hn⟩
theorem Eev {H : Type} {P : Program} {e : TypeId} : ∀ {ds : List (DataW H)} {d : DataW H},d ∈ ds -> ∀ n ∈ d.weights P e,n ∈ DataW.weightsAll P e ds
 | d0 :: ds,d,hd,n,hn => by
  simp only [DataW.weightsAll,List.mem_append]
  rcases List.mem_cons.1 hd with rfl | hd
  ·exact .inl hn
  ·exact .inr (Eev hd n hn)
theorem Ekb {P : Program} {t e : TypeId} {α : Type} {d : Kd α} {B : α -> Prop} (hu : P.underlying t = some (.slice e)) (hc : P.cellsOf t = 1) (he : Fit P e d B) :
  Fit P t (Kd.slice e d) (fun xs => xs.length * P.bytesOf e <= 140737488351232 ∧ ∀ y,y ∈ xs -> B y) := by
 refine ⟨hc.symm,fun H enc W base spare held fuel cs x h hw => ?_⟩
 rcases Deep.open_slice hu h with ⟨rfl,rfl⟩ | ⟨a,len,cap,m,n,D,Pl,rfl,hb,hl,hm,hmm,rfl,hx⟩
 ·exact ⟨[],⟨none,0,rfl,Nat.le_refl _,Kd.Eoh d W⟩,by simp,by simp⟩
 ·have hlm : len <= m := by rw [hmm];split <;> omega
  have hmem : ∀ i,i < len -> D i ∈ (List.range len).map D := fun i hi => List.mem_map.2 ⟨i,List.mem_range.2 hi,rfl⟩
  have hel : ∀ i,i < len -> ∃ y : α,∃ c,W.cells? base (a.add (i * P.cellsOf e)) (P.cellsOf e) = some c ∧ d.K W y c ∧ B y := by
   intro i hi
   obtain ⟨c,h1,h2⟩ := hx i (by omega)
   obtain ⟨y,h3,h4⟩ := he.2 H enc W base spare held n c _ h2 (fun q hq => hw q (by
    simp only [DataW.weights,hu,List.mem_cons,List.mem_append]
    exact .inr (.inl (Eev (hmem i hi) q hq))))
   exact ⟨y,c,h1,h3,h4⟩
  have hf : ∃ xs : List α,xs.length = len ∧ ∀ i p,xs[i]? = some p -> ∃ c,W.cells? base (a.add (i * P.cellsOf e)) (P.cellsOf e) = some c ∧ d.K W p c ∧ B p := by
   clear hw hmem hx hlm hmm hl h
   induction len with
   | zero => exact ⟨[],rfl,fun i p hp => by simp at hp⟩
   | succ len ih =>
    obtain ⟨xs,h1,h2⟩ := ih (fun i hi => hel i (by omega))
    obtain ⟨y,c,h3,h4,h5⟩ := hel len (by omega)
    refine ⟨xs ++ [y],by simp [h1],fun i p hp => ?_⟩
    rcases Nat.lt_or_ge i xs.length with hi | hi
    ·rw [List.getElem?_append_left hi] at hp
     exact h2 i p hp
    ·have hi' : i = xs.length := by
      have := (List.getElem?_eq_some_iff.1 hp).1
      simp at this
      omega
     subst hi'
     have hp' : y = p := by simpa using hp
     subst hp'
     rw [h1]
     exact ⟨c,h3,h4,h5⟩
  obtain ⟨xs,hxl,hxs⟩ := hf
  subst hxl
  refine ⟨xs,⟨some a,cap,rfl,hl,rfl,by simp only [maxLen] at hm;omega,fun _ => ⟨a,rfl,fun j p hj => ?_⟩⟩,?_,fun y hy => ?_⟩
  ·obtain ⟨c,h1,h2,_⟩ := hxs j p hj
   obtain ⟨_,h3,h4⟩ := World.cells?_some h1
   refine ⟨c,h3.trans he.1.symm,h2,fun i u hu' => ?_⟩
   have hi : i < P.cellsOf e := by have := (List.getElem?_eq_some_iff.1 hu').1;omega
   have h5 := h4 i hi
   rw [Deep.add_add] at h5
   rw [he.1,h5,hu']
  ·have h6 := hw (((List.range xs.length).map D).length + ((List.range (m - xs.length)).map fun j => D (xs.length + j)).length |>.mul (P.bytesOf e)) (by
    simp only [DataW.weights,hu]
    exact List.mem_cons_self)
   simp only [List.length_map,List.length_range,reachBytes] at h6
   have h7 : xs.length * P.bytesOf e <= (xs.length + (m - xs.length)) * P.bytesOf e := Nat.mul_le_mul_right _ (by omega)
   exact Nat.le_trans h7 h6
  ·obtain ⟨i,hi,rfl⟩ := List.getElem_of_mem hy
   obtain ⟨_,_,_,h8⟩ := hxs i _ (List.getElem?_eq_getElem hi)
   exact h8
theorem Emu {P : Program} {t : TypeId} {α : Type} {d : Kd α} {B : α -> Prop} (hf : Fit P t d B) {H : Type} {enc : TypeId × Value -> H} {W : World} {base : Nat} {spare : Nat -> Bool} {held : Bool} {v : Value} {dat : DataW H} {ps : List MemPlace}
  {ts : List TypeId} {ds : List (DataW H)} {j : Nat} (hsz : (DataW.weightsEach P ts ds).all (· <= reachBytes) = true) (ht : ts[j]? = some t) (hd : ds[j]? = some dat)
  (h : DataW.Trod enc P W base spare held t v dat ps) : ∃ y,d.K W y v.cells.toList ∧ B y := by
 obtain ⟨fuel,hf'⟩ := h
 exact hf.2 H enc W base spare held fuel _ (dat,ps) hf' (fun n hn => by
  have := List.all_eq_true.1 hsz _ (DataW.weights_mem_each ht hd n hn)
  simpa using this)
theorem Ekc {P : Program} {t e : TypeId} {α : Type} {d : Kd α} {B : List α -> Prop} (hf : Fit P t (Kd.slice e d) B) {H : Type} {enc : TypeId × Value -> H} {W : World} {base : Nat} {spare : Nat -> Bool} {held : Bool} {a : Option Addr} {len cap : Nat} {dat : DataW H} {ps : List MemPlace}
  {ts : List TypeId} {ds : List (DataW H)} {j : Nat} (hsz : (DataW.weightsEach P ts ds).all (· <= reachBytes) = true) (ht : ts[j]? = some t) (hd : ds[j]? = some dat)
  (h : DataW.Trod enc P W base spare held t (.slice a len cap) dat ps) : ∃ xs : List α,len = xs.length ∧ xs.length <= cap ∧ Kd.C d W a xs.length xs ∧ B xs := by
 obtain ⟨xs,⟨A,c,hv,hl,hC⟩,hB⟩ := Emu hf hsz ht hd h
 simp only [Value.cells,List.cons.injEq,and_true] at hv
 injection hv with h1 h2 h3
 subst h1 h2 h3
 exact ⟨xs,rfl,hl,hC,hB⟩
theorem trod_lt {H : Type} {enc : TypeId × Value -> H} {P : Program} {W : World} {base : Nat} {spare : Nat -> Bool} {held : Bool} {t : TypeId} {v : Value} {dat : DataW H} {ps : List MemPlace} (h : DataW.Trod enc P W base spare held t v dat ps) : ∀ x ∈ ps,x.block < W.heap.size := by
 obtain ⟨m,hm⟩ := h
 exact DataW.trod_lt m _ _ _ hm
theorem Egc {P : Program} {t e n : Nat} {α : Type} {d : Kd α} {B : α -> Prop} (hu : P.underlying t = some (.slice e)) (hc : P.cellsOf t = 1) (hn : P.bytesOf e = n) (he : Fit P e d B) :
  Fit P t (Kd.slice e d) (fun xs => xs.length * n <= 140737488351232 ∧ ∀ y,y ∈ xs -> B y) := hn ▸ Ekb hu hc he
end Go.Proofs.YtgnijnlgbelifaaGreat.W.GOpen
