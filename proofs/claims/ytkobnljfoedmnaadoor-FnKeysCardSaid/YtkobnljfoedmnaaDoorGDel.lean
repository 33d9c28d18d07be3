/- slices.DeleteFunc over a row of the call's own,of elements of any kind,at a predicate that may lay blocks of its own: over any program. -/
import Derived.Shelf.SlicesE.DeleteFunc
import Derived.Test.YtkobnljfoedmnaaDoorGIdx
set_option linter.unusedVariables false
set_option linter.unusedSimpArgs false
namespace Go.Proofs.YtkobnljfoedmnaaDoorW.GDel
open Go Go.Proofs Go.Shelf Go.RowKit Go.Lib Go.Proofs.YtkobnljfoedmnaaDoorW.PrintWords Go.Proofs.YtkobnljfoedmnaaDoorW.GIdx
variable {P : Program} {ρ : Ren} {α : Type}
structure n10 (P : Program) (ρ : Ren) : Prop where
 mixed : P.follows .mixedOrders = true
 f6 : Bears P (ρ.f 6) (SlBodyH.n6 ρ)
 f10 : Bears P (ρ.f 10) (SlBodyH.n10 ρ)
 t0 : P.underlying (ρ.t 0) = some (TypeDesc.tuple #[])
 a0 : ∀ w,(isAgg (ρ.t 0)).run P w = .ok false w
 z0 : ∀ w,(Go.sizeOf (ρ.t 0)).run P w = .ok 1 w
 v0 : ∀ w,(zeroValue (ρ.t 0)).run P w = .ok (Value.tuple #[]) w
 t3 : P.underlying (ρ.t 3) = some (TypeDesc.int IntKind.i64)
 a3 : ∀ w,(isAgg (ρ.t 3)).run P w = .ok false w
 z3 : ∀ w,(Go.sizeOf (ρ.t 3)).run P w = .ok 1 w
 v3 : ∀ w,(zeroValue (ρ.t 3)).run P w = .ok (Value.int IntKind.i64 0) w
 t4 : P.underlying (ρ.t 4) = some (TypeDesc.bool)
 a4 : ∀ w,(isAgg (ρ.t 4)).run P w = .ok false w
 z4 : ∀ w,(Go.sizeOf (ρ.t 4)).run P w = .ok 1 w
 v4 : ∀ w,(zeroValue (ρ.t 4)).run P w = .ok (Value.bool false) w
 t22 : P.underlying (ρ.t 22) = some (TypeDesc.slice (ρ.t 23))
 a22 : ∀ w,(isAgg (ρ.t 22)).run P w = .ok false w
 z22 : ∀ w,(Go.sizeOf (ρ.t 22)).run P w = .ok 1 w
 v22 : ∀ w,(zeroValue (ρ.t 22)).run P w = .ok (Value.slice none 0 0) w
 t25 : P.underlying (ρ.t 25) = some (TypeDesc.func #[ρ.t 23] #[ρ.t 4] false)
 a25 : ∀ w,(isAgg (ρ.t 25)).run P w = .ok false w
 z25 : ∀ w,(Go.sizeOf (ρ.t 25)).run P w = .ok 1 w
 v25 : ∀ w,(zeroValue (ρ.t 25)).run P w = .ok (Value.nilFunc) w
theorem run_clear (w : World) (t e ty : TypeId) (z : Value) (ht : P.underlying t = some (.slice e)) (hv : ∀ w,(zeroValue e).run P w = .ok z w) (b o n c : Nat) (hn : 0 < n) (h1 : ∀ v ∈ (Builtin.zeroCells z.cells n).toList,v.oneCell' = true)
  (hc : ∀ j,j < (Builtin.zeroCells z.cells n).toList.length -> (w.cell? ⟨b,o + j,none⟩).isSome = true) (hf : ∀ j,j < (Builtin.zeroCells z.cells n).toList.length -> w.frozen? ⟨b,o + j,none⟩ = false) :
  (Builtin.clear_ #[t] ty #[.slice (some ⟨b,o,none⟩) n c]).run P w = .ok (.tuple #[]) (w.setCells b o (Builtin.zeroCells z.cells n).toList) := by
 have hst := run_storeCells_cells (P := P) b o (Builtin.zeroCells z.cells n).toList 0 w (by simpa using hc) (by simpa using hf) h1
 simp only [Nat.add_zero] at hst
 obtain ⟨m,rfl⟩ : ∃ m,n = m + 1 := ⟨n - 1,by omega⟩
 simp [Builtin.clear_,run_underlying ht,hv,hst]
theorem R_cutoff {d : Kd α} {e base g n cap m : Nat} {ok : Nat -> Prop} {W : World} {xs : List α} (h : d.R e W base ok (.slice (some ⟨g,0,none⟩) n cap) xs) (hm : m <= n) : d.R e W base ok (.slice (some ⟨g,0,none⟩) m cap) (xs.take m) := by
 obtain ⟨hn,hnc,_⟩ := Kd.R_reads' h
 obtain ⟨hok,inner,ho,hr⟩ := h
 rcases ho.2 with ⟨hv,_⟩ | ⟨g',cap',cur,hv,hb,hh,hnc',hcm,hcs,ht⟩
 ·cases hv
 injection hv with ha _ hc
 injection ha with ha
 injection ha with hg
 subst hg;subst hc
 have hl : (xs.take m).length = m := by rw [List.length_take];omega
 have hle : m * d.sz <= xs.length * d.sz := Nat.mul_le_mul_right _ (by omega)
 refine ⟨hok,inner.take (m * d.sz),⟨by rw [List.length_take,hr.1,hl];omega,.inr ⟨g,cap,cur,by rw [hl],hb,hh,by rw [hl];omega,hcm,hcs,?_⟩⟩,by rw [List.length_take,hr.1,hl];omega,fun j p hj => ?_⟩
 ·rw [hl,<- ht,List.take_take,Nat.min_eq_left hle]
 ·have hjm : j < m := by have := (List.getElem?_eq_some_iff.1 hj).1;omega
  rw [List.getElem?_take,if_pos hjm] at hj
  have := hr.2 j p hj
  have e1 : ((inner.take (m * d.sz)).drop (j * d.sz)).take d.sz = (inner.drop (j * d.sz)).take d.sz := by
   have hb2 : j * d.sz + d.sz <= m * d.sz := by rw [<- Nat.succ_mul];exact Nat.mul_le_mul_right _ hjm
   rw [List.drop_take,List.take_take,Nat.min_eq_left (by omega)]
  rw [e1]
  exact this
theorem R_behind {d : Kd α} {e base g n cap : Nat} {ok : Nat -> Prop} {W : World} {xs : List α} (h : d.R e W base ok (.slice (some ⟨g,0,none⟩) n cap) xs) (o : Nat) (vs : List Value) (ho1 : n * d.sz <= o) (ho2 : o + vs.length <= cap * d.sz) :
  d.R e (W.setCells g o vs) base ok (.slice (some ⟨g,0,none⟩) n cap) xs ∧ W.grownBy (W.setCells g o vs) (some g) := by
 obtain ⟨hn,hnc,_⟩ := Kd.R_reads' h
 obtain ⟨hok,inner,ho,hr⟩ := h
 rcases ho.2 with ⟨hv,_⟩ | ⟨g',cap',cur,hv,hb,hh,hnc',hcm,hcs,ht⟩
 ·cases hv
 injection hv with ha _ hc
 injection ha with ha
 injection ha with hg
 subst hg;subst hc
 obtain ⟨cur',h3,h4,h5⟩ := setCells_row vs o W cur hh (by omega)
 obtain ⟨s1,s2,s3,s4⟩ := setCells_same g vs o W
 have hfar : ∀ k,k ≠ g -> (W.setCells g o vs).heap[k]? = W.heap[k]? := fun k hk => setCells_far vs _ k hk
 refine ⟨⟨hok,inner,⟨ho.1,.inr ⟨g,cap,cur',by rw [hn],hb,h3,by omega,hcm,by omega,?_⟩⟩,hr.1,fun j p hj => ?_⟩,⟨s1,s2,s3,by rw [s4];exact Nat.le_refl _,fun k _ hk => hfar k (fun he => hk (by rw [he]))⟩⟩
 ·have hto : (cur.toList.take o).length = o := by rw [List.length_take,Array.length_toList];omega
  rw [h5,List.append_assoc,List.take_append_of_le_length (by rw [hto,<- hn];exact ho1),List.take_take,Nat.min_eq_left (by rw [<- hn];exact ho1)]
  exact ht
 ·refine d.M_mono (fun _ hk => hk) (d.M_move (fun k hk => hfar k (fun he => hk.2 (by rw [he];simp [Value.ownBlock]))) (hr.2 j p hj))
theorem grownBy_trans {w w1 w2 : World} {row : Option Nat} (h : w.grownBy w1 row) (k : w1.grownBy w2 row) : w.grownBy w2 row :=
 ⟨k.os.trans h.os,k.tape.trans h.tape,k.output.trans h.output,Nat.le_trans h.size k.size,fun j hj hr => (k.block j (Nat.lt_of_lt_of_le hj h.size) hr).trans (h.block j hj hr)⟩
theorem grownBy_below {w w1 : World} (row : Option Nat) (h : Below w.heap.size w w1) : w.grownBy w1 row := ⟨h.os,h.tape,h.output,h.size,fun j hj _ => h.block j hj⟩
theorem R_size {d : Kd α} {e base : Nat} {ok : Nat -> Prop} {W : World} {v : Value} {xs : List α} (h : d.R e W base ok v xs) : xs = [] ∧ v = .slice none 0 0 ∨ ∃ g cap,v = .slice (some ⟨g,0,none⟩) xs.length cap ∧ base <= g ∧ g < W.heap.size ∧ xs.length <= cap ∧ (∃ cur,W.heap[g]? = some (.cells cur e (0,0)) ∧ cur.size = cap * d.sz) ∧ cap <= maxLen := by
 obtain ⟨_,inner,ho,hr⟩ := h
 rcases ho.2 with ⟨hv,h0⟩ | ⟨g,cap,cur,hv,hb,hh,hnc,hcm,hcs,ht⟩
 ·exact .inl ⟨List.eq_nil_of_length_eq_zero h0,hv⟩
 ·exact .inr ⟨g,cap,hv,hb,blk_lt hh,hnc,⟨cur,hh,hcs⟩,hcm⟩
theorem idx_some {p : α -> Option Bool} {f : α -> Bool} {xs : List α} (h : ∀ x,x ∈ xs -> p x = some (f x)) : (idxO p xs 0 = some (-1) ∧ xs.filter (fun x => !f x) = xs) ∨ ∃ m,m < xs.length ∧ idxO p xs 0 = some (m : Int) ∧ (∃ x,xs[m]? = some x ∧ f x = true) ∧ (xs.take m).filter (fun x => !f x) = xs.take m := by
 have h1 := idxO_some (i := 0) h
 cases hq : xs.findIdx? f with
 | none =>
  left
  rw [hq] at h1
  refine ⟨h1,List.filter_eq_self.2 fun x hx => ?_⟩
  have := List.findIdx?_eq_none_iff.1 hq x hx
  simp [this]
 | some m =>
  right
  rw [hq] at h1
  obtain ⟨hm,hp,hall⟩ := List.findIdx?_eq_some_iff_getElem.1 hq
  refine ⟨m,hm,by simpa using h1,⟨xs[m],List.getElem?_eq_getElem hm,hp⟩,List.filter_eq_self.2 fun x hx => ?_⟩
  obtain ⟨j,hj,rfl⟩ := List.mem_take_iff_getElem.1 hx
  have := hall j (by omega)
  simp only [Bool.not_eq_true] at this
  simp [this]
theorem kept_step {f : α -> Bool} {xs ys : List α} {i j : Nat} {x : α} (hx : xs[j]? = some x) (hl : ys.length = xs.length) (hij : i < j) (hd : ys.drop j = xs.drop j) (ht : ys.take i = (xs.take j).filter fun x => !f x) :
  (f x = true -> ys.take i = (xs.take (j + 1)).filter fun x => !f x) ∧ (f x = false -> (ys.set i x).take (i + 1) = (xs.take (j + 1)).filter fun x => !f x) ∧ ys.drop (j + 1) = xs.drop (j + 1) ∧ (ys.set i x).drop (j + 1) = xs.drop (j + 1) := by
 have hj : j < xs.length := (List.getElem?_eq_some_iff.1 hx).1
 have he : xs[j] = x := (List.getElem?_eq_some_iff.1 hx).2
 have h2 : ys.drop (j + 1) = xs.drop (j + 1) := by rw [<- List.drop_drop,<- List.drop_drop,hd]
 have h3 : xs.take (j + 1) = xs.take j ++ [x] := by rw [List.take_succ_eq_append_getElem hj,he]
 refine ⟨fun hf => ?_,fun hf => ?_,h2,?_⟩
 ·rw [h3,List.filter_append,<- ht]
  simp [hf]
 ·rw [h3,List.filter_append,<- ht,List.take_set,List.take_succ_eq_append_getElem (by omega),List.set_append_right _ _ (by rw [List.length_take];omega)]
  simp [hf,List.length_take,Nat.min_eq_left (show i <= ys.length by omega)]
 ·rw [List.drop_set_of_lt (by omega)]
  exact h2
end Go.Proofs.YtkobnljfoedmnaaDoorW.GDel
