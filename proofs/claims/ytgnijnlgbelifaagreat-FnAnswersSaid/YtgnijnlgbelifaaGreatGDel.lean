import Derived.Shelf.SlicesE.DeleteFunc
import Derived.Test.YtgnijnlgbelifaaGreatGIdx
set_option linter.unusedVariables false
set_option linter.unusedSimpArgs false
namespace Go.Proofs.YtgnijnlgbelifaaGreat.W.GDel
open Go Proofs Shelf RowKit Lib W.PrintWords W.GIdx
variable {P : Program} {ρ : Ren} {α : Type}
structure n10 (P : Program) (ρ : Ren) : Prop where
 mixed : P.follows .mixedOrders = true
 f6 : Bears P (ρ.f 6) (SlBodyH.n6 ρ)
 f10 : Bears P (ρ.f 10) (SlBodyH.n10 ρ)
 t0 : P.underlying (ρ.t 0) = some (TypeDesc.tuple #[])
 a0 : ∀ w,(isAgg (ρ.t 0)).run P w = .ok false w
 z0 : ∀ w,(Go.sizeOf (ρ.t 0)).run P w = .ok 1 w
 v0 : ∀ w,(zeroValue (ρ.t 0)).run P w = .ok (Value.tuple #[]) w
 t3 : P.underlying (ρ.t 3) = some (TypeDesc.int IntKind.i64)
 a3 : ∀ w,(isAgg (ρ.t 3)).run P w = .ok false w
 z3 : ∀ w,(Go.sizeOf (ρ.t 3)).run P w = .ok 1 w
 v3 : ∀ w,(zeroValue (ρ.t 3)).run P w = .ok (Value.int IntKind.i64 0) w
 t4 : P.underlying (ρ.t 4) = some (TypeDesc.bool)
 a4 : ∀ w,(isAgg (ρ.t 4)).run P w = .ok false w
 z4 : ∀ w,(Go.sizeOf (ρ.t 4)).run P w = .ok 1 w
 v4 : ∀ w,(zeroValue (ρ.t 4)).run P w = .ok (Value.bool false) w
 t22 : P.underlying (ρ.t 22) = some (TypeDesc.slice (ρ.t 23))
 a22 : ∀ w,(isAgg (ρ.t 22)).run P w = .ok false w
 z22 : ∀ w,(Go.sizeOf (ρ.t 22)).run P w = .ok 1 w
 v22 : ∀ w,(zeroValue (ρ.t 22)).run P w = .ok (Value.slice none 0 0) w
 t25 : P.underlying (ρ.t 25) = some (TypeDesc.func #[ρ.t 23] #[ρ.t 4] false)
 a25 : ∀ w,(isAgg (ρ.t 25)).run P w = .ok false w
 z25 : ∀ w,(Go.sizeOf (ρ.t 25)).run P w = .ok 1 w
 v25 : ∀ w,(zeroValue (ρ.t 25)).run P w = .ok (Value.nilFunc) w
theorem Elj {d : Kd α} {e base g n cap m : Nat} {ok : Nat -> Prop} {W : World} {xs : List α} (h : d.R e W base ok (.slice (some ⟨g,0,none⟩) n cap) xs) (hm : m <= n) : d.R e W base ok (.slice (some ⟨g,0,none⟩) m cap) (xs.take m) := by
 obtain ⟨hn,hnc,_⟩ := Kd.R_reads' h
 obtain ⟨hok,inner,ho,hr⟩ := h
 rcases ho.2 with ⟨hv,_⟩ | ⟨g',cap',cur,hv,hb,hh,hnc',hcm,hcs,ht⟩
 ·cases hv
 injection hv with ha _ hc
 injection ha with ha
 injection ha with hg
 subst hg;subst hc
 have hl : (xs.take m).length = m := by rw [List.length_take];omega
 have hle : m * d.sz <= xs.length * d.sz := Nat.mul_le_mul_right _ (by omega)
 refine ⟨hok,inner.take (m * d.sz),⟨by rw [List.length_take,hr.1,hl];omega,.inr ⟨g,cap,cur,by rw [hl],hb,hh,by rw [hl];omega,hcm,hcs,?_⟩⟩,by rw [List.length_take,hr.1,hl];omega,fun j p hj => ?_⟩
 ·rw [hl,<- ht,List.take_take,Nat.min_eq_left hle]
 ·have hjm : j < m := by have := (List.getElem?_eq_some_iff.1 hj).1;omega
  rw [List.getElem?_take,if_pos hjm] at hj
  have := hr.2 j p hj
  have e1 : ((inner.take (m * d.sz)).drop (j * d.sz)).take d.sz = (inner.drop (j * d.sz)).take d.sz := by
   have hb2 : j * d.sz + d.sz <= m * d.sz := by rw [<- Nat.succ_mul];exact Nat.mul_le_mul_right _ hjm
   rw [List.drop_take,List.take_take,Nat.min_eq_left (by omega)]
  rw [e1]
  exact this
theorem Enp {d : Kd α} {e base : Nat} {ok : Nat -> Prop} {W : World} {v : Value} {xs : List α} (h : d.R e W base ok v xs) : xs = [] ∧ v = .slice none 0 0 ∨ ∃ g cap,v = .slice (some ⟨g,0,none⟩) xs.length cap ∧ base <= g ∧ g < W.heap.size ∧ xs.length <= cap ∧ (∃ cur,W.heap[g]? = some (.cells cur e (0,0)) ∧ cur.size = cap * d.sz) ∧ cap <= maxLen := by
 obtain ⟨_,inner,ho,hr⟩ := h
 rcases ho.2 with ⟨hv,h0⟩ | ⟨g,cap,cur,hv,hb,hh,hnc,hcm,hcs,ht⟩
 ·exact .inl ⟨List.eq_nil_of_length_eq_zero h0,hv⟩
 ·exact .inr ⟨g,cap,hv,hb,Ebp hh,hnc,⟨cur,hh,hcs⟩,hcm⟩
end Go.Proofs.YtgnijnlgbelifaaGreat.W.GDel
