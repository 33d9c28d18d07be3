import Derived.Test.YtgnijnlgbelifaaGreatWKept
import Derived.Test.YtgnijnlgbelifaaGreatWZeros
set_option linter.unusedVariables false
set_option linter.unusedSimpArgs false
namespace Go.Proofs.YtgnijnlgbelifaaGreat.W.PrintWords.Kd
open Go RowKit Lib
def Two {α : Type} (d : Kd α) (e : Nat) (w : World) (base : Nat) (u : Value) (xs : List α) (v : Value) (ys : List α) : Prop :=
 ∃ PA PB : Nat -> Prop,(∀ k,PA k -> ¬ PB k) ∧ Kd.S d e w base PA u xs ∧ Kd.S d e w base PB v ys
section
variable {α : Type} {d : Kd α} {e base : Nat} {w w1 : World} {u v : Value} {xs ys : List α}
theorem Two.none (d : Kd α) (e : Nat) (w : World) (base : Nat) : Two d e w base (.slice none 0 0) [] (.slice none 0 0) [] :=
 ⟨fun _ => False,fun _ => False,fun _ h _ => h,Kd.Eep _ _ _ _ _,Kd.Eep _ _ _ _ _⟩
theorem Two.apart (h : Two d e w base u xs v ys) : ∃ PA PB : Nat -> Prop,(∀ k,PA k -> ¬ PB k) ∧ Kd.S d e w base (fun k_ => PA k_ ∧ some k_ ≠ (v : Value).ownBlock) u xs ∧ Kd.S d e w base (fun k_ => PB k_ ∧ some k_ ≠ (u : Value).ownBlock) v ys := by
 obtain ⟨PA,PB,hd,h1,h2⟩ := h
 exact ⟨PA,PB,hd,Eam h1 (fun k hk => ⟨hk,fun he => hd k hk ((S_R h2).1 k he.symm)⟩),Eam h2 (fun k hk => ⟨hk,fun he => hd k ((S_R h1).1 k he.symm) hk⟩)⟩
theorem Two.below (h : Two d e w base u xs v ys) (hb : Below w.heap.size w w1) : Two d e w1 base u xs v ys := by
 obtain ⟨PA,PB,hd,h1,h2⟩ := h
 exact ⟨PA,PB,hd,Ebq h1 hb,Ebq h2 hb⟩
theorem Two.Ejt (h : Two d e w base u xs v ys) (o : Obj) : Two d e (w.alloc o) base u xs v ys := h.below (Eav (Below.refl _ _) o)
theorem Two.Emr (h : Two d e w base u xs v ys) : Two d e w.drew base u xs v ys := h.below (Edi (Below.refl _ _))
theorem Two.Eju (h : Two d e w base u xs v ys) (m : Nat) : Two d e (w.drewN m) base u xs v ys := h.below (Ebg (Below.refl _ _) m)
theorem Two.swap (h : Two d e w base u xs v ys) : Two d e w base v ys u xs := by
 obtain ⟨PA,PB,hd,h1,h2⟩ := h
 exact ⟨PB,PA,fun k hb ha => hd k ha hb,h2,h1⟩
end
section
variable {P : Program} {ops : Array Oper} {rest : List Oper} {o : Oper} {a : Act} {Q : Exit -> Act -> World -> Prop} {α : Type}
theorem Egw (d : Kd α) {w0 W : World} (base : Nat) (hgd : o.guard = none) (s x : Operand) (t e : TypeId) (z : Value) (bytes : Nat)
  (ho : o.op = .call { callee := .builtin .append,args := #[s,x],argTypes := #[t,t] })
  (ht : P.underlying t = some (.slice e)) (hinfo : (P.info? e).map (fun i => (i.zero,i.size,i.bytes)) = some (some z,d.sz,bytes)) (hz : z.cells.size = d.sz) (hs0 : 0 < d.sz) (hb0 : 0 < bytes)
  (v : Value) (xs : List α) (p : α) (cs : List Value) (u : Value) (us : List α) (C : Value) {PA PB : Nat -> Prop} (hd : ∀ k,PA k -> ¬ PB k) (hs : a.eval s = v) (hx : a.eval x = .slice (some ⟨W.heap.size,0,none⟩) 1 1) (hp : d.M W base (fun k => some k = C.ownBlock) p cs)
  (HO : S d e W base (fun k => PB k ∧ some k ≠ C.ownBlock) v xs) (HU : S d e W base (fun k => PA k ∧ some k ≠ C.ownBlock ∧ some k ≠ v.ownBlock) u us) (HB : Below base w0 W) (hbase : base <= W.heap.size) (hl : (xs.length + 1) * bytes <= 140737488355328)
  (h : ∀ v1 w1,Two d e w1 base u us v1 (xs ++ [p]) -> Below base w0 w1 -> W.grownBy w1 v.ownBlock -> wpList P ops Q rest (a.put o.dst v1) w1) :
  wpList P ops Q (o :: rest) a (W.alloc (.cells cs.toArray e)) := by
 refine Eek d base hgd s x t e z bytes ho ht hinfo hz hs0 hb0 v xs p cs (fun k => (PB k ∧ some k ≠ C.ownBlock) ∨ some k = C.ownBlock ∨ W.heap.size <= k) (fun k => some k = C.ownBlock) hs hx hp ?_ (fun k hk => .inr (.inr hk)) (Eam HO (fun k hk => ⟨.inl hk,hk.2⟩)) HB hbase hl ?_
 ·intro k hk
  exact ⟨.inr (.inl hk),fun he => ((S_R HO).1 k he.symm).2 hk⟩
 ·intro v1 w1 hr hb hg hat
  have hu := Eey (v1 := v1) (Eam (ok' := fun k => (PA k ∧ some k ≠ C.ownBlock ∧ k < W.heap.size) ∧ some k ≠ v.ownBlock) (Ecn HU) (fun k hk => ⟨⟨hk.1.1,hk.1.2.1,hk.2.2.1⟩,hk.1.2.2⟩)) hg hat
  refine h v1 w1 ⟨_,_,?_,hu,hr⟩ hb hg
  rintro k ⟨⟨h1,h2,h3⟩,_⟩ (h4 | h4 | h4)
  ·exact hd k h1 h4.1
  ·exact h2 h4
  ·exact Nat.lt_irrefl _ (Nat.lt_of_lt_of_le h3 h4)
theorem Ejv (l : List α) (n j : Nat) (p : α × Nat) (h : (l.zipIdx n)[j]? = some p) : l.zipIdx[j]? = some (p.1,j) ∧ p.2 = n + j := by
 rw [List.getElem?_zipIdx] at h
 obtain ⟨x,hx,rfl⟩ := Option.map_eq_some_iff.1 h
 exact ⟨by rw [List.getElem?_zipIdx,hx];simp,rfl⟩
open Classical in
theorem Eli (d : Kd α) {w0 W : World} (base : Nat) (hgd : o.guard = none) (s x : Operand) (t e : TypeId) (z : Value) (bytes : Nat)
  (ho : o.op = .call { callee := .builtin .append,args := #[s,x],argTypes := #[t,t] })
  (ht : P.underlying t = some (.slice e)) (hinfo : (P.info? e).map (fun i => (i.zero,i.size,i.bytes)) = some (some z,d.sz,bytes)) (hz : z.cells.size = d.sz) (hs0 : 0 < d.sz) (hb0 : 0 < bytes)
  (v : Value) (xs ys : List α) (A : Option Addr) (m c : Nat) (hs : a.eval s = v) (hx : a.eval x = .slice A m c)
  (HT : Two d e W base v xs (.slice A m c) ys) (HB : Below base w0 W) (hbase : base <= W.heap.size) (hl : (xs.length + m) * bytes <= 140737488355328)
  (h : ∀ v1 w1,S d e w1 base (fun k => base <= k) v1 (xs ++ ys) -> Below base w0 w1 -> W.grownBy w1 v.ownBlock -> wpList P ops Q rest (a.put o.dst v1) w1) :
  wpList P ops Q (o :: rest) a W := by
 obtain ⟨PA,PB,hd,⟨f1,h1⟩,⟨f2,h2⟩⟩ := HT
 have g1 : (tag (fun k => if PB k then xs.length + f2 k else f1 k) d).R e W base PA v xs.zipIdx := Ens h1 (fun k hk _ => if_neg (hd k hk))
 have g2 : Eco ((tag (fun k => if PB k then xs.length + f2 k else f1 k) d).M W base (fun k => base <= k ∧ PB k)) d.sz W A m (ys.zipIdx xs.length) := by
  obtain ⟨A',c',he,_,hr⟩ := Ecj.reads (Ect h2).2
  rw [List.length_zipIdx] at he hr
  injection he with e1 e2 e3
  subst e1 e2
  refine ⟨by rw [List.length_zipIdx],hr.2.1,fun hp => ?_⟩
  obtain ⟨ad,ha,hc⟩ := hr.2.2 hp
  refine ⟨ad,ha,fun j p hj => ?_⟩
  obtain ⟨hj1,hj2⟩ := Ejv _ _ _ _ hj
  obtain ⟨cc,hcl,hM,hcell⟩ := hc j _ hj1
  refine ⟨cc,hcl,d.M_mono (fun k hk => ⟨⟨hk.1.1.2.1,hk.1.1.1⟩,?_⟩) hM,hcell⟩
  have hk2 : f2 k = j := hk.2
  show (if PB k then xs.length + f2 k else f1 k) = p.2
  rw [if_pos hk.1.1.1,hk2,hj2]
 refine Ebd (tag (fun k => if PB k then xs.length + f2 k else f1 k) d) base hgd s x t e z bytes ho ht hinfo hz hs0 hb0 v xs.zipIdx (ys.zipIdx xs.length) A m c (fun k => base <= k) (fun k => base <= k ∧ PB k) hs hx (Eak (Ect g1) (fun k hk => hk.2.1)) g2 (fun _ _ hk => hk) (fun k hk => ⟨hk.1,fun he => hd k (g1.1 k he.symm) hk.2⟩) (fun k hk => Nat.le_trans hbase hk) HB hbase (by rw [List.length_zipIdx];exact hl) ?_
 intro v1 w1 hr hb hg hat
 have hq : xs.zipIdx ++ ys.zipIdx xs.length = (xs ++ ys).zipIdx := by rw [List.zipIdx_append,Nat.zero_add]
 rw [hq] at hr
 exact h v1 w1 ⟨_,hr⟩ hb hg
end
end Go.Proofs.YtgnijnlgbelifaaGreat.W.PrintWords.Kd
