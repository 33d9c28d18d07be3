/- slices.SortFunc over a row of whole numbers of the call's own,at a comparator that answers at some numbers alone (those of the row are such) and may lay blocks: over any program. -/
import Derived.Shelf.SlSortCmp.NoneTotal
import Derived.Lib.OwnBridge
import Derived.Shelf.GgClosure.Gives
import Derived.Test.YtgnijnlgbelifaaGreatWWords
set_option linter.unusedVariables false
set_option linter.unusedSimpArgs false
namespace Go.Proofs.YtgnijnlgbelifaaGreatW.GSrtI
open Go Go.Proofs Go.Shelf Go.RowKit Go.Lib Go.Sort Go.Proofs.YtgnijnlgbelifaaGreatW.PrintWords
variable {P : Program} {ρ : Ren}
def enc {p : Int -> Prop} (x : {x : Int // p x}) : Value := .int .i64 x.1
def srtF (cf : Int -> Int -> Int) (l : List Int) : List Int := l.mergeSort fun x y => !(decide (cf y x < 0))
theorem Elp (L : SlLaysF.n6 P ρ) (p : Int -> Prop) [Inhabited {x : Int // p x}] (cf : Int -> Int -> Int) (hO : SWO (ltOf fun (x y : {x : Int // p x}) => cf x.1 y.1)) (hT : ∀ x y,p x -> p y -> ¬ cf x y < 0 -> ¬ cf y x < 0 -> x = y) (g : Nat) (cb : Array Value) (eg : ∀ args w,(callFunc g args).run P w = .ok (.enter g args) w)
  (e base : Nat) (ok : Nat -> Prop) (v : Value) (l : List Int) (w : World) (ho : (Kd.int .i64).R e w base ok v l) (hl : ∀ x,x ∈ l -> p x) (hsz : l.length < 4611686018427387904)
  (hcmp : ∀ (W : World) (x y : Int),p x -> p y -> w.grownBy W v.ownBlock -> Calls P g (#[.int .i64 x,.int .i64 y] ++ cb) W fun e w' => e = .returned (.int .i64 (cf x y)) ∧ ∃ q os',w' = grow (W.drewN q) os') :
  Calls P (ρ.f 6) #[v,.func (.func g) #[] cb] w fun e' w' => e' = .returned (.tuple #[]) ∧ (Kd.int .i64).R e w' base ok v (srtF cf l) ∧ w.grownBy w' v.ownBlock := by
 have hown : w.ownsRow base e 1 v l.length (l.map (Value.int .i64)) := Kd.Ehj ho
 have hlen : (srtF cf l).length = l.length := by simp [srtF]
 by_cases hv : v = .slice none 0 0
 ·subst hv
  have hn : l = [] := by
   rcases hown.2 with ⟨_,h2⟩ | ⟨g,cap,cur,e0,_⟩
   ·exact List.eq_nil_of_length_eq_zero h2
   ·cases e0
  subst hn
  refine (AnyF.slices_SortFunc_none { L with } none 0 _ w).mono ?_
  rintro e' w' ⟨rfl,rfl⟩
  exact ⟨rfl,by simpa [srtF] using ho,World.grownBy.refl _ _⟩
 ·obtain ⟨b,cap,rfl,hb,hlt,hn,hm,_,hH⟩ := Lib.holds_of_ownsRow hown hv
  obtain ⟨ys,hys⟩ : ∃ ys : List {x : Int // p x},ys.map (·.1) = l := ⟨l.attach.map fun x => ⟨x.1,hl x.1 x.2⟩,by rw [List.map_map];exact List.attach_map_subtype_val l⟩
  have hyl : ys.length = l.length := by rw [<- hys,List.length_map]
  have hH2 : Holds (enc (p := p)) w b 0 ys.toArray := by
   intro j hj
   have hj1 : j < ys.length := by simpa using hj
   have := hH j (by simpa [<- hyl] using hj1)
   have e1 : l[j]'(by omega) = (ys[j]).1 := by
    have : l[j]'(by omega) = (ys.map (·.1))[j]'(by rw [List.length_map];exact hj1) := by congr 1;exact hys.symm
    rw [this,List.getElem_map]
   simpa [enc,e1,getElem!_pos,hj1,show j < l.length by omega] using this
  have hcon := Any.slices_SortFunc_total L (enc (p := p)) (fun _ => rfl) (fun x y => cf x.1 y.1) hO g cb b 0 cap ys.toArray w eg ?_ hH2 hlt (by simpa [hyl] using hsz) ?_
  rotate_left
  ·intro m os dk hdk x y
   refine hcmp (sortWorld enc w b 0 m dk os) x.1 y.1 x.2 y.2 ?_
   have hbel := below_grown (putRow (enc (p := p)) (Sort.ahead w m) b 0 dk) 0 os
   have hz : (putRow (enc (p := p)) (Sort.ahead w m) b 0 dk).heap.size = w.heap.size := by simp [putRow,mapBlock,Sort.ahead]
   refine ⟨hbel.os,hbel.tape,hbel.output,Nat.le_trans (Nat.le_of_eq hz.symm) hbel.size,fun i hi hne => ?_⟩
   refine (hbel.block i (by rw [hz];exact hi)).trans ?_
   have hne' : b ≠ i := fun e_ => hne (by rw [e_];rfl)
   simp [putRow,mapBlock,Sort.ahead,Array.getElem?_modify,hne']
  ·intro x y h1 h2
   have h1' : ¬ cf x.1 y.1 < 0 := by simpa [ltOf] using h1
   have h2' : ¬ cf y.1 x.1 < 0 := by simpa [ltOf] using h2
   exact Subtype.ext (hT x.1 y.1 x.2 y.2 h1' h2')
  have hms : (ys.mergeSort fun x y => !(ltOf fun (x y : {x : Int // p x}) => cf x.1 y.1) y x).map (·.1) = srtF cf l := by
   unfold srtF
   rw [<- hys]
   exact List.map_mergeSort (fun a _ b _ => rfl)
  simp only [List.size_toArray,hyl] at hcon
  refine hcon.mono ?_
  rintro e' w' ⟨rfl,m,os,rfl⟩
  generalize hD : (ys.mergeSort fun x y => !(ltOf fun (x y : {x : Int // p x}) => cf x.1 y.1) y x) = D at hms
  have hDl : D.length = l.length := by rw [<- hlen,<- hms,List.length_map]
  have hown2 : w.ownsRow base e 1 (.slice (some ⟨b,0,none⟩) l.length cap) l.length (ys.map (enc (p := p))) := by
   have : ys.map (enc (p := p)) = l.map (Value.int .i64) := by rw [<- hys,List.map_map];rfl
   rw [this];exact hown
  have h1 := Lib.ownsRow_putRow (q := m) (k := l.length) (ys := D) hown2 hDl (Nat.le_refl _)
  rw [List.take_of_length_le (by omega)] at h1
  have e2 : D.map (enc (p := p)) = (srtF cf l).map (Value.int .i64) := by rw [<- hms,List.map_map];rfl
  rw [e2] at h1
  have hbel := below_grown (putRow (enc (p := p)) (Sort.ahead w m) b 0 D.toArray) 0 os
  have hz : (putRow (enc (p := p)) (Sort.ahead w m) b 0 D.toArray).heap.size = w.heap.size := by simp [putRow,mapBlock,Sort.ahead]
  have h2 : Kd.R (Kd.int .i64) e (putRow (enc (p := p)) (Sort.ahead w m) b 0 D.toArray) base ok (.slice (some ⟨b,0,none⟩) l.length cap) (srtF cf l) := Kd.Ehi (by rw [hlen];exact h1) (fun k hk => ho.1 k hk)
  refine ⟨rfl,Kd.Ebj h2 hbel,hbel.os,hbel.tape,hbel.output,Nat.le_trans (Nat.le_of_eq hz.symm) hbel.size,fun i hi hne => ?_⟩
  refine (hbel.block i (by rw [hz];exact hi)).trans ?_
  have hne' : b ≠ i := fun e_ => hne (by rw [e_];rfl)
  simp [putRow,mapBlock,Sort.ahead,Array.getElem?_modify,hne']
end Go.Proofs.YtgnijnlgbelifaaGreatW.GSrtI
