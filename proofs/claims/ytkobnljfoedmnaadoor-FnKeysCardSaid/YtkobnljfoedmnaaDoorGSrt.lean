/- slices.SortFunc over a row of the call's own whose elements are cells alone (no rows inside): over any program. -/
import Derived.Shelf.SlSortCmp.NoneTotal
import Derived.Lib.OwnBridge
import Derived.Shelf.GgClosure.Gives
import Derived.Lib.Bytealg
import Derived.Test.YtkobnljfoedmnaaDoorWWords
set_option linter.unusedVariables false
set_option linter.unusedSimpArgs false
namespace Go.Proofs.YtkobnljfoedmnaaDoorW.GSrt
open Go Go.Proofs Go.Shelf Go.RowKit Go.Lib Go.Sort Go.Proofs.YtkobnljfoedmnaaDoorW.PrintWords
variable {P : Program} {ρ : Ren} {α : Type}
structure Flat (d : Kd α) (enc : α -> List Value) : Prop where
 k : ∀ w x cs,d.K w x cs ↔ cs = enc x
 m : ∀ w base ok x cs,d.M w base ok x cs ↔ cs = enc x
theorem Flat.len {d : Kd α} {enc : α -> List Value} (h : Flat d enc) (w : World) (x : α) : (enc x).length = d.sz := d.K_len (w := w) ((h.k w x _).2 rfl)
theorem Flat.one {d : Kd α} {enc : α -> List Value} (h : Flat d enc) (w : World) (x : α) : ∀ u ∈ enc x,u.oneCell' = true := d.K_one (w := w) ((h.k w x _).2 rfl)
theorem flat_length {enc : α -> List Value} {k : Nat} (hk : ∀ x,(enc x).length = k) : ∀ xs : List α,(xs.flatMap enc).length = xs.length * k
 | [] => by simp
 | x :: xs => by rw [List.flatMap_cons,List.length_append,hk,flat_length hk xs,List.length_cons,Nat.add_mul,Nat.one_mul,Nat.add_comm]
theorem flat_get {enc : α -> List Value} {k : Nat} (hk : ∀ x,(enc x).length = k) : ∀ (xs : List α) (j : Nat),j < xs.length * k -> (xs.flatMap enc)[j]? = (xs[j / k]?).bind fun x => (enc x)[j % k]?
 | [],j,h => by simp at h
 | x :: xs,j,h => by
  have h0 : 0 < k := Nat.pos_of_ne_zero (fun h0 => by subst h0;simp at h)
  rw [List.flatMap_cons]
  by_cases hj : j < k
  ·rw [List.getElem?_append_left (by rw [hk];exact hj),Nat.div_eq_of_lt hj,Nat.mod_eq_of_lt hj]
   rfl
  ·have hj' : k <= j := by omega
   have hlt : j - k < xs.length * k := by rw [List.length_cons,Nat.add_mul,Nat.one_mul] at h;omega
   rw [List.getElem?_append_right (by rw [hk];exact hj'),hk,flat_get hk xs (j - k) hlt]
   have e1 : j / k = (j - k) / k + 1 := by rw [Nat.div_eq_sub_div h0 hj']
   have e2 : j % k = (j - k) % k := Nat.mod_eq_sub_mod hj'
   rw [e1,e2,List.getElem?_cons_succ]
theorem flat_drop {enc : α -> List Value} {k : Nat} (hk : ∀ x,(enc x).length = k) : ∀ (xs : List α) (j : Nat),(xs.flatMap enc).drop (j * k) = (xs.drop j).flatMap enc
 | [],j => by simp
 | x :: xs,0 => by simp
 | x :: xs,j + 1 => by
  rw [List.flatMap_cons,Nat.add_mul,Nat.one_mul,Nat.add_comm,<- List.drop_drop,List.drop_left' (hk x),flat_drop hk xs j]
  rfl
theorem flat_of_reps {enc : α -> List Value} {k : Nat} (hk : ∀ x,(enc x).length = k) : ∀ (xs : List α) (inner : List Value),inner.length = xs.length * k -> (∀ j p,xs[j]? = some p -> (inner.drop (j * k)).take k = enc p) -> inner = xs.flatMap enc
 | [],inner,hl,_ => by simpa using hl
 | x :: xs,inner,hl,h => by
  have h0 : inner.take k = enc x := by simpa using h 0 x rfl
  rw [List.flatMap_cons,<- h0]
  conv => lhs;rw [<- List.take_append_drop k inner]
  congr 1
  refine flat_of_reps hk xs _ (by rw [List.length_drop,hl,List.length_cons,Nat.add_mul];omega) fun j p hj => ?_
  have := h (j + 1) p (by rwa [List.getElem?_cons_succ])
  rwa [Nat.add_mul,Nat.one_mul,Nat.add_comm,<- List.drop_drop] at this
theorem own_of_R {d : Kd α} {enc : α -> List Value} (hf : Flat d enc) {e base : Nat} {w : World} {ok : Nat -> Prop} {v : Value} {xs : List α} (h : d.R e w base ok v xs) : w.ownsRow base e d.sz v xs.length (xs.flatMap enc) := by
 obtain ⟨_,inner,ho,hr⟩ := h
 have : inner = xs.flatMap enc := flat_of_reps (fun x => hf.len w x) xs inner hr.1 fun j p hj => (hf.m _ _ _ _ _).1 (hr.2 j p hj)
 rw [<- this]
 exact ho
theorem R_of_own {d : Kd α} {enc : α -> List Value} (hf : Flat d enc) {e base : Nat} {w : World} {ok : Nat -> Prop} {v : Value} {xs : List α} (h : w.ownsRow base e d.sz v xs.length (xs.flatMap enc)) (hok : ∀ k,v.ownBlock = some k -> ok k) : d.R e w base ok v xs := by
 have hk : ∀ x,(enc x).length = d.sz := fun x => hf.len w x
 refine ⟨hok,_,h,flat_length hk xs,fun j p hj => ?_⟩
 have hlt := (List.getElem?_eq_some_iff.1 hj).1
 have e1 : ((xs.flatMap enc).drop (j * d.sz)).take d.sz = enc p := by
  rw [flat_drop hk,List.drop_eq_getElem_cons hlt,List.flatMap_cons,List.take_left' (hk _),(List.getElem?_eq_some_iff.1 hj).2]
 exact (hf.m _ _ _ _ _).2 e1
theorem flatK_list [Inhabited α] {enc : α -> List Value} {k : Nat} (hk : ∀ x,(enc x).length = k) (d : Array α) : (flatK enc k d).toList = d.toList.flatMap enc := by
 apply List.ext_getElem?
 intro j
 by_cases hj : j < d.size * k
 ·have h0 : 0 < k := Nat.pos_of_ne_zero (fun h0 => by subst h0;simp at hj)
  have hdiv : j / k < d.size := Nat.div_lt_of_lt_mul (by rwa [Nat.mul_comm])
  have hmod : j % k < k := Nat.mod_lt _ h0
  rw [flat_get hk _ j (by simpa using hj),Array.getElem?_toList,Array.getElem?_eq_getElem (by simpa using hj),Array.getElem?_toList,Array.getElem?_eq_getElem hdiv]
  have := get_flatK enc k d j hj
  rw [getElem!_pos _ j (by simpa using hj)] at this
  rw [this,Option.bind_some,getElem!_pos d _ hdiv,List.getElem?_eq_getElem (by rw [hk];exact hmod),getElem!_pos _ _ (by rw [hk];exact hmod)]
 ·rw [List.getElem?_eq_none (by simpa using hj),List.getElem?_eq_none (by rw [flat_length hk];simpa using hj)]
theorem holdsK_of_own [Inhabited α] {enc : α -> List Value} {k : Nat} (hk : ∀ x,(enc x).length = k) {w : World} {base e : Nat} {v : Value} {xs : List α} (h : w.ownsRow base e k v xs.length (xs.flatMap enc)) (hv : v ≠ .slice none 0 0) :
  ∃ g cap,v = .slice (some ⟨g,0,none⟩) xs.length cap ∧ base <= g ∧ g < w.heap.size ∧ xs.length <= cap ∧ cap <= maxLen ∧ HoldsK enc k w g 0 xs.toArray := by
 have h' := h
 rcases h.2 with ⟨e0,_⟩ | ⟨g,cap,cur,rfl,hb,hg,hn,hm,hs,ht⟩
 ·exact absurd e0 hv
 ·have hlt : g < w.heap.size := blk_lt hg
  refine ⟨g,cap,rfl,hb,hlt,hn,hm,fun j hj => ⟨?_,by simp [World.frozen?,hg]⟩⟩
  have hj' : j < xs.length * k := by simpa using hj
  have e1 : (xs.flatMap enc)[j]? = some (flatK enc k xs.toArray)[j]! := by
   have := flatK_list hk xs.toArray
   simp only [List.toList_toArray] at this
   rw [<- this,Array.getElem?_toList,Array.getElem?_eq_getElem hj,getElem!_pos _ j hj]
  have := h'.cells (g := g) rfl j _ e1
  rw [add_plain] at this
  rw [Nat.zero_add]
  exact this
theorem own_putRowK {w : World} {base e k g n cap q : Nat} {ys : List Value} (h : w.ownsRow base e k (.slice (some ⟨g,0,none⟩) n cap) n ys) (F : Array Value) (hF : F.size = n * k) :
  (putRow id (Sort.ahead w q) g 0 F).ownsRow base e k (.slice (some ⟨g,0,none⟩) n cap) n F.toList := by
 rcases h.2 with ⟨e0,_⟩ | ⟨g',cap',cur,e0,hb,hg,hn,hm,hs,ht⟩
 ·cases e0
 ·injection e0 with e1 _ e3
  injection e1 with e1
  injection e1 with e1
  subst e1;subst e3
  have hle : n * k <= cap * k := Nat.mul_le_mul_right _ hn
  refine ⟨by simpa using hF,.inr ⟨g,cap,putCells id 0 F cur,rfl,hb,?_,hn,hm,by simpa [putCells] using hs,?_⟩⟩
  ·simp [putRow,mapBlock,Sort.ahead,Array.getElem?_modify,hg,onCells]
  ·apply List.ext_getElem?
   intro j
   rw [List.getElem?_take,Array.getElem?_toList,Array.getElem?_toList]
   by_cases hj : j < n * k
   ·have hjc : j < cur.size := by omega
    simp only [if_pos hj,putCells,Array.getElem?_mapIdx,Array.getElem?_eq_getElem hjc,Option.map_some]
    rw [if_pos (by omega),Array.getElem?_eq_getElem (by omega)]
    simp [getElem!_pos,show j < F.size by omega]
   ·simp [hj,hF]
def srt {β : Type} [Inhabited β] (cf : β -> β -> Int) (ys : List β) : List β := (pdq (ltOf cf) ys.toArray 0 ys.length (Lib.bitLen ys.length) true true).toList
theorem srt_facts {β : Type} [Inhabited β] (cf : β -> β -> Int) (hO : SWO (ltOf cf)) (ys : List β) : (srt cf ys).length = ys.length ∧ (srt cf ys).Perm ys ∧ (srt cf ys).Pairwise fun a b => ltOf cf b a = false := by
 have h := pdq_sorts (ltOf cf) hO ys.toArray 0 ys.toArray.size (Lib.bitLen ys.length) true true (Nat.zero_le _) (Nat.le_refl _) (Or.inl rfl)
 obtain ⟨⟨h1,_,h2⟩,h3⟩ := h
 have hs : ys.toArray.size = ys.length := by simp
 rw [hs] at h1 h2 h3
 unfold srt
 generalize pdq (ltOf cf) ys.toArray 0 ys.length (Lib.bitLen ys.length) true true = D at h1 h2 h3
 refine ⟨by simpa using h1,?_,?_⟩
 ·have e1 : D.extract 0 ys.length = D := by rw [<- h1];exact Array.extract_size
  have e2 : ys.toArray.extract 0 ys.length = ys.toArray := by
   have := Array.extract_size (xs := ys.toArray)
   rwa [hs] at this
  rw [e1,e2] at h2
  simpa using h2
 ·rw [List.pairwise_iff_getElem]
  intro i j hi hj hij
  have hi' : i < D.size := by simpa using hi
  have hj' : j < D.size := by simpa using hj
  have := h3 i j (Nat.zero_le _) hij (by rw [h1] at hj';exact hj')
  rw [getElem!_pos _ i hi',getElem!_pos _ j hj'] at this
  simpa using this
set_option maxHeartbeats 1000000 in
theorem sort_own {β : Type} [Inhabited β] (L : SlLaysF0.n6 P ρ) (k : Nat) (aE : ∀ w,(isAgg (ρ.t 24)).run P w = .ok true w) (zE : ∀ w,(Go.sizeOf (ρ.t 24)).run P w = .ok k w) (enc : β -> List Value) (hk : ∀ x,(enc x).length = k) (h1 : ∀ x,∀ v ∈ enc x,v.oneCell' = true) (cf : β -> β -> Int) (hO : SWO (ltOf cf)) (g : Nat) (cb : Array Value)
  (eg : ∀ args w,(callFunc g args).run P w = .ok (.enter g args) w) (base e : Nat) (v : Value) (ys : List β) (w : World) (h : w.ownsRow base e k v ys.length (ys.flatMap enc)) (hsz : ys.length < 4611686018427387904)
  (hcmp : ∀ b,v.ownBlock = some b -> CmpLays P g cb enc k cf b 0 ys.length w) :
  Calls P (ρ.f 6) #[v,.func (.func g) #[] cb] w fun e' w' => e' = .returned (.tuple #[]) ∧ w'.ownsRow base e k v ys.length ((srt cf ys).flatMap enc) ∧ w.grownBy w' v.ownBlock := by
 obtain ⟨f1,f2,f3⟩ := srt_facts cf hO ys
 by_cases hv : v = .slice none 0 0
 ·subst hv
  have hl : ys = [] := by
   rcases h.2 with ⟨_,h2⟩ | ⟨g,cap,cur,e0,_⟩
   ·exact List.eq_nil_of_length_eq_zero h2
   ·cases e0
  subst hl
  have e0 : srt cf ([] : List β) = [] := List.eq_nil_of_length_eq_zero f1
  refine (AnyF.slices_SortFunc_none L none 0 _ w).mono ?_
  rintro e' w' ⟨rfl,rfl⟩
  rw [e0]
  exact ⟨rfl,h,⟨rfl,rfl,rfl,Nat.le_refl _,fun _ _ _ => rfl⟩⟩
 ·obtain ⟨b,cap,rfl,hb,hlt,hn,hm,hH⟩ := holdsK_of_own hk h hv
  have hcon := AnyQ.slices_SortFunc_eq L k aE zE enc hk h1 cf hO g cb b 0 cap ys.toArray w eg (by have := hcmp b rfl;simpa using this) hH hlt (by simpa using hsz)
  simp only [List.size_toArray] at hcon
  refine hcon.mono ?_
  rintro e' w' ⟨rfl,m,os,rfl⟩
  have hps : (pdq (ltOf cf) ys.toArray 0 ys.length (Lib.bitLen ys.length) true true).size = ys.length := by
   have := f1
   unfold srt at this
   simpa using this
  have hown := own_putRowK (q := m) h (flatK enc k (pdq (ltOf cf) ys.toArray 0 ys.length (Lib.bitLen ys.length) true true)) (by rw [size_flatK,hps])
  rw [flatK_list hk] at hown
  have hsz2 : (putRow id (Sort.ahead w m) b 0 (flatK enc k (pdq (ltOf cf) ys.toArray 0 ys.length (Lib.bitLen ys.length) true true))).heap.size = w.heap.size := by simp [putRow,mapBlock,Sort.ahead]
  have hbel := below_grown (putRow id (Sort.ahead w m) b 0 (flatK enc k (pdq (ltOf cf) ys.toArray 0 ys.length (Lib.bitLen ys.length) true true))) 0 os
  rw [ahead_zero] at hbel
  refine ⟨rfl,pw_own_below hown hbel,hbel.os,hbel.tape,hbel.output,by have := hbel.size;rw [hsz2] at this;exact this,fun j hj hne => ?_⟩
  have hjb : j ≠ b := fun he => hne (by rw [he];rfl)
  refine (hbel.block j (by rw [hsz2];exact hj)).trans ?_
  simp [putRow,mapBlock,Sort.ahead,Array.getElem?_modify,Ne.symm hjb]
end Go.Proofs.YtkobnljfoedmnaaDoorW.GSrt
