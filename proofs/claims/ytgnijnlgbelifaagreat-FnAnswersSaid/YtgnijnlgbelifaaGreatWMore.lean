-- PRINTED BY print.sh 35421559b90ae4d0a3588c463048766b98c2df88dd9212a6774a882060cdf62d: not written by this session
-- PRINTED WORDS (module Derived/Print/More.lean): go-gate-2's additions: an AI agent of Go's test side, Tue Nov 17 2026; no person has read it. Lean checks it.
import Derived.Test.YtgnijnlgbelifaaGreatWQPut
import Derived.Test.YtgnijnlgbelifaaGreatWNEv
namespace Go.Proofs.YtgnijnlgbelifaaGreat.W.PrintMore
open RowKit W.PrintWords
namespace Kd
open Go.Proofs.YtgnijnlgbelifaaGreat.W.PrintWords.Kd
end Kd
namespace Kd
open Go.Proofs.YtgnijnlgbelifaaGreat.W.PrintWords.Kd
section
variable {α : Type} {d : Kd α} {e base g N : Nat} {ok : Nat -> Prop} {W w1 : World} {u v : Value} {xs : List α}
theorem Eoa (hu : d.R e W base (fun k => ok k ∧ k ≠ g) u xs) (hk : Eaa W w1 g none) : d.R e w1 base (fun k => ok k ∧ k < W.heap.size) u xs :=
 Eak (Ehb (Ect hu) hk (fun _ h => h.1.2)) (fun _ h => ⟨h.1.1,h.2.2.1⟩)
theorem Eob (h : d.R e w1 base (fun k => ok k ∧ k < N) u xs) (hbase : ∀ k,v.ownBlock = some k -> N <= k) : d.R e w1 base (fun k => (ok k ∧ some k ≠ v.ownBlock) ∧ k < N) u xs :=
 Eak h (fun k hk => ⟨⟨hk.1,fun e => Nat.lt_irrefl _ (Nat.lt_of_lt_of_le hk.2 (hbase k e.symm))⟩,hk.2⟩)
end
end Kd
theorem Ebi (k k' : IntKind) (x y : Int) : Builtin.max2 (.int k x) (.int k' y) = pure (.int k (if x < y then y else x)) := by simp only [Builtin.max2,gt_iff_lt]
theorem Ebj (k k' : IntKind) (x y : Int) : Builtin.min2 (.int k x) (.int k' y) = pure (.int k (if y < x then y else x)) := by simp only [Builtin.min2]
theorem Ebx (ats : Array TypeId) (ty : TypeId) (a b : Value) : Builtin.max_ ats ty #[a,b] = (Builtin.max2 a b >>= fun s => pure s) := by simp only [Builtin.max_,List.foldlM_cons,List.foldlM_nil]
theorem Eby (ats : Array TypeId) (ty : TypeId) (a b : Value) : Builtin.min_ ats ty #[a,b] = (Builtin.min2 a b >>= fun s => pure s) := by simp only [Builtin.min_,List.foldlM_cons,List.foldlM_nil]
theorem Ebb (ats : Array TypeId) (ty : TypeId) (a b c : Value) : Builtin.max_ ats ty #[a,b,c] = (Builtin.max2 a b >>= fun s => Builtin.max2 s c >>= fun s => pure s) := by simp only [Builtin.max_,List.foldlM_cons,List.foldlM_nil]
theorem Ebc (ats : Array TypeId) (ty : TypeId) (a b c : Value) : Builtin.min_ ats ty #[a,b,c] = (Builtin.min2 a b >>= fun s => Builtin.min2 s c >>= fun s => pure s) := by simp only [Builtin.min_,List.foldlM_cons,List.foldlM_nil]
theorem Ebk (ats : Array TypeId) (ty : TypeId) (a b c d : Value) : Builtin.max_ ats ty #[a,b,c,d] = (Builtin.max2 a b >>= fun s => Builtin.max2 s c >>= fun s => Builtin.max2 s d >>= fun s => pure s) := by simp only [Builtin.max_,List.foldlM_cons,List.foldlM_nil]
theorem Ebl (ats : Array TypeId) (ty : TypeId) (a b c d : Value) : Builtin.min_ ats ty #[a,b,c,d] = (Builtin.min2 a b >>= fun s => Builtin.min2 s c >>= fun s => Builtin.min2 s d >>= fun s => pure s) := by simp only [Builtin.min_,List.foldlM_cons,List.foldlM_nil]
end Go.Proofs.YtgnijnlgbelifaaGreat.W.PrintMore
namespace Go.Proofs.YtgnijnlgbelifaaGreat.W.PrintWords
open RowKit
section
variable {P : Program} {ops : Array Oper} {rest : List Oper} {o : Oper} {a : Act} {Q : Exit -> Act -> World -> Prop} {W : World}
theorem Eaz {f : FuncId} {as : Array Operand} {ts : Array TypeId} (_ho : o.op = .call { callee := .value (.func f),args := as,argTypes := ts }) (h : wpList P ops Q (o :: rest) a W) : wpList P ops Q (o :: rest) a W := h
theorem Eal {b : Builtin} {xs : Array Operand} {ts : Array TypeId} (_ho : o.op = .call { callee := .builtin b,args := xs,argTypes := ts }) (h : wpList P ops Q (o :: rest) a W) : wpList P ops Q (o :: rest) a W := h
end
theorem Edz {W : World} {o : Obj} {a : Addr} {v : Value} (h : (W.alloc o).cell? a = some v) (hlt : a.block < W.heap.size) : W.cell? a = some v := (World.cell?_alloc_lt _ _ _ hlt).symm.trans h
theorem cellG {W w1 : World} {row : Option Nat} (hg : W.grownBy w1 row) {a : Addr} {v : Value} (h : W.cell? a = some v) (hne : some a.block ≠ row) : w1.cell? a = some v := by
 have := hg.block a.block (World.block_lt_of_cell? W a h) hne
 simpa [World.cell?,this] using h
namespace Kd
section
variable {α : Type} {d : Kd α} {e base : Nat} {ok : Nat -> Prop} {W w1 : World} {v : Value} {xs : List α}
theorem Elm (h : d.R e W base ok v xs) (hE : d.E = []) {row : Option Nat} (hg : W.grownBy w1 row) (hne : ∀ k,row = some k -> some k ≠ v.ownBlock) : d.R e w1 base ok v xs :=
 Eak (Enf (Edt hE h) hg (fun k hk e_ => hne k e_.symm hk)) (fun k hk => h.1 k hk.symm)
end
section
variable {α : Type} {d : Kd α} {e base g n cap : Nat} {ok oki okp : Nat -> Prop} {W : World} {xs : List α} {i : Int} {c : List Value}
theorem H_at (h : H d e W base ok (.slice (some ⟨g,0,none⟩) n cap) xs i oki c) (h0 : 0 <= i) (h1 : i < n) : (∀ j u,c[j]? = some u -> W.cell? ⟨g,i.toNat * d.sz + j,none⟩ = some u) ∧ ∀ j,W.frozen? ⟨g,i.toNat * d.sz + j,none⟩ = false := by
 obtain ⟨rows,_,hraw,_,_,hcc,_⟩ := Ell h h0 h1
 obtain ⟨_,_,_,_,hfr⟩ := Ejb hraw [] i h0 h1
 exact ⟨hcc,hfr⟩
theorem Emc (hH : H d e W base ok (.slice (some ⟨g,0,none⟩) n cap) xs i oki c) (h0 : 0 <= i) (h1 : i < n) {seg : List Value} {j : Nat} (hj : j + seg.length <= d.sz)
  {x' : α} (hM : d.M W base okp x' (c.take j ++ seg ++ c.drop (j + seg.length))) (hokp : ∀ k,okp k -> oki k) :
  S d e (W.setCells g (i.toNat * d.sz + j) seg) base ok (.slice (some ⟨g,0,none⟩) n cap) (xs.set i.toNat x') ∧ W.grownBy (W.setCells g (i.toNat * d.sz + j) seg) (some g) :=
 Emt (okg := fun _ => False) (Enz hH (fun _ hk => ⟨hk,fun h => h⟩)) h0 h1 hj hM (fun k hk => .inl (hokp k hk)) (fun _ hk => hk.elim)
end
section
variable {α : Type} {d : Kd α} {e base b b' g N : Nat} {ok ok1 : Nat -> Prop} {W W2 w1 : World} {u v : Value} {xs ys : List α} {S : Nat -> Prop}
theorem Eke {n size : Nat} {cs : List Value} (h : W.ownsRow b e size v n cs) (hb : ∀ k,v.ownBlock = some k -> b' <= k) : W.ownsRow b' e size v n cs := by
 obtain ⟨h1,h2⟩ := h
 refine ⟨h1,?_⟩
 rcases h2 with h2 | ⟨g,cap,cur,rfl,_,r⟩
 ·exact .inl h2
 ·exact .inr ⟨g,cap,cur,rfl,hb g (by simp [Value.ownBlock]),r⟩
theorem Emv (hM : ∀ w ok x cs,d.M w b ok x cs -> d.M w b' ok x cs) (h : d.R e W b ok v xs) (hb : ∀ k,v.ownBlock = some k -> b' <= k) : d.R e W b' ok v xs := by
 obtain ⟨h0,inner,ho,hr⟩ := h
 exact ⟨h0,inner,Eke ho hb,hr.imp_ (fun _ _ hp => hM _ _ _ _ hp)⟩
theorem Emw (h : d.R e W base ok v xs) (hk : Kept W W2 S) (hne : ∀ k,ok k -> ¬ S k) : d.R e W2 base (fun k => ok k ∧ (¬ S k ∧ k < W.heap.size)) v xs :=
 Eod (Eak (Ect h) (fun k hk => ⟨hk.1,hne k hk.1,hk.2.2.1⟩)) hk (fun _ hk => hk.2.1)
theorem Emx (h : Kd.S d e W base ok v xs) (hk : Kept W W2 S) (hne : ∀ k,ok k -> ¬ S k) : Kd.S d e W2 base (fun k => ok k ∧ (¬ S k ∧ k < W.heap.size)) v xs :=
 Eoe (Eam (Ecn h) (fun k hk => ⟨hk.1,hne k hk.1,hk.2.2.1⟩)) hk (fun _ hk => hk.2.1)
end
end Kd
end Go.Proofs.YtgnijnlgbelifaaGreat.W.PrintWords
namespace Go.Proofs.YtgnijnlgbelifaaGreat.W.PrintWords
open RowKit
theorem Kept.keepG {w W W2 : World} {S2 : Nat -> Prop} {g : Nat} (h : Eaa w W g none) (k : Kept W W2 S2) (hs : ∀ k,S2 k -> k = g ∨ w.heap.size <= k) : Eaa w W2 g none :=
 ⟨Nat.le_trans h.1 k.1,fun i hi hg hr => (k.2 i (Nat.lt_of_lt_of_le hi h.1) (fun h2 => (hs i h2).elim hg (fun h3 => by omega))).trans (h.2 i hi hg hr)⟩
namespace Kd
def V {α : Type} (d : Kd α) (_e : Nat) (W : World) (_base : Nat) (ok : Nat -> Prop) (v : Value) (xs : List α) : Prop := ∃ A c,v = .slice A xs.length c ∧ xs.length <= c ∧ F d W ok A xs.length xs
section
variable {α β : Type} {d : Kd α} {e base base' n m c g N' lo hi : Nat} {ok ok' S : Nat -> Prop} {w W w1 : World} {A : Option Addr} {ad : Addr} {u v v1 : Value} {xs : List α}
theorem Egp (h : V d e W base ok v xs) (hF : ∀ A,F d W ok A xs.length xs -> F d w1 ok' A xs.length xs) : V d e w1 base' ok' v xs := by
 obtain ⟨A,c,hv,hl,hf⟩ := h
 exact ⟨A,c,hv,hl,hF A hf⟩
theorem V_mk (hl : xs.length <= c) (hf : F d W ok A xs.length xs) : V d e W base ok (.slice A xs.length c) xs := ⟨A,c,rfl,hl,hf⟩
theorem Ecz (h : V d e W base ok v xs) : ∃ A c,v = .slice A xs.length c := by
 obtain ⟨A,c,hv,_⟩ := h
 exact ⟨A,c,hv⟩
theorem V_at (h : V d e W base ok (.slice A n c) xs) : n = xs.length ∧ n <= c ∧ F d W ok A xs.length xs := by
 obtain ⟨A',c',hv,hl,hf⟩ := h
 injection hv with ha hn hc
 subst ha;subst hc
 exact ⟨hn,by rw [hn];exact hl,hf⟩
theorem V_reads' (h : V d e W base ok (.slice A n c) xs) : n = xs.length ∧ n <= c ∧ d.C W A xs.length xs := ⟨(V_at h).1,(V_at h).2.1,Ejn (V_at h).2.2⟩
theorem V_F (h : V d e W base ok (.slice A n c) xs) : F d W ok A n xs := by
 obtain ⟨hn,_,hf⟩ := V_at h
 rw [hn]
 exact hf
theorem Eef (d : Kd α) (e : Nat) (W : World) (base : Nat) (ok : Nat -> Prop) : V d e W base ok (.slice none 0 0) [] := ⟨none,0,rfl,Nat.le_refl _,Emk d W ok⟩
theorem R_V (h : d.R e W base ok v xs) : V d e W base' ok v xs := by
 obtain ⟨A,c,rfl⟩ := Eaj h
 exact ⟨A,c,rfl,(R_reads' h).2.1,R_F h⟩
theorem N_V (h : N d e W base ok v xs) : V d e W base' ok v xs := by
 obtain ⟨A,c,rfl⟩ := Ebz h
 exact ⟨A,c,rfl,(N_reads' h).2.1,N_F h⟩
theorem Eax (h : V d e W base ok v xs) (hok : ∀ k,ok k -> ok' k) : V d e W base ok' v xs := Egp h (fun _ hf => Eiu hf hok)
theorem Edn (h : V d e W base ok v xs) (_ : base' <= base) : V d e W base' ok v xs := h
theorem Edd (h : V d e W base ok v xs) (hb : Below W.heap.size W w1) : V d e w1 base ok v xs := Egp h (fun _ hf => Efw hf hb)
theorem Ekf (h : V d e W base ok v xs) (o : Obj) : V d e (W.alloc o) base ok v xs := Egp h (fun _ hf => Emi hf o)
theorem Efb (h : V d e W base ok v xs) : V d e W.drew base ok v xs := Egp h (fun _ hf => Elx hf)
theorem Ekg (h : V d e W base ok v xs) (m : Nat) : V d e (W.drewN m) base ok v xs := Egp h (fun _ hf => Emj hf m)
theorem Edp (h : V d e W base ok v xs) {p : Addr} (hok : ∀ k,ok k -> k ≠ p.block) (u : Value) : V d e (W.setCell p u) base ok v xs := Egp h (fun _ hf => F_far hf hok u)
theorem Ekh (h : V d e W base ok v xs) (hk : Eaa W w1 g none) (hok : ∀ k,ok k -> k ≠ g) : V d e w1 base ok v xs := Egp h (fun _ hf => Enm hf hk hok)
theorem Emy (h : V d e W base (fun k => ok k ∧ some k ≠ u.ownBlock) v xs) (hg : W.grownBy w1 u.ownBlock) (hat : v1.ownBlock = u.ownBlock ∨ ∃ b,v1.ownBlock = some b ∧ W.heap.size <= b) : V d e w1 base (fun k => ok k ∧ some k ≠ v1.ownBlock) v xs := Egp h (fun _ hf => Eml hf hg hat)
theorem Ebw (h : V d e W base (fun k => ok k ∧ some k ≠ v.ownBlock) u xs) (hg : W.grownBy w1 v.ownBlock) (hat : v1.ownBlock = v.ownBlock ∨ ∃ b,v1.ownBlock = some b ∧ W.heap.size <= b) : V d e w1 base (fun k => ok k ∧ some k ≠ v1.ownBlock) u xs := Emy h hg hat
theorem Efu (h : N d e W base (fun k => ok k ∧ some k ≠ v.ownBlock) u xs) (hg : W.grownBy w1 v.ownBlock) (hat : v1.ownBlock = v.ownBlock ∨ ∃ b,v1.ownBlock = some b ∧ W.heap.size <= b) : N d e w1 base (fun k => ok k ∧ some k ≠ v1.ownBlock) u xs := En h hg hat
theorem V_elder' (h : V d e W base ok v xs) (hbase : ∀ k,u.ownBlock = some k -> W.heap.size <= k) (hb : Below W.heap.size W w1) : V d e w1 base (fun k => ok k ∧ some k ≠ u.ownBlock) v xs := Egp h (fun _ hf => F_elder' hf hbase hb)
theorem Ede (h : V d e W base ok v xs) (a : Nat) (ha : W.heap.size <= a) : V d e W base (fun k => ok k ∧ k ≠ a) v xs := Egp h (fun _ hf => Elf hf a ha)
theorem Eki (h : F d W ok A xs.length xs) (hm : m <= xs.length) : F d W ok A (xs.take m).length (xs.take m) := Enl h (fun _ hC => Edh hC hm)
theorem Emz (h : F d W ok A xs.length xs) (hm : m <= xs.length) (hc : xs.length <= c) : F d W ok (if c = m then A else A.map (·.add (m * d.sz))) (xs.drop m).length (xs.drop m) := Enl h (fun _ hC => Eid hC hm hc)
theorem Ecv {l : List α} {cs : List Value} (h : FK (Kd.slice e d) W ok l cs) : ∃ A c,cs = [.slice A l.length c] ∧ l.length <= c ∧ F d W ok A l.length l := by
 obtain ⟨A,c,rfl,hl,_⟩ := Efp h
 refine ⟨A,c,rfl,hl,fun W' hW => ?_⟩
 obtain ⟨A',c',he,_,g'⟩ := h W' hW
 injection he with he _
 injection he with ha _ _
 rw [ha]
 exact g'
theorem Eel {l : List α} (hl : l.length <= c) (hf : F d W ok A l.length l) : FK (Kd.slice e d) W ok l [.slice A l.length c] := fun W' hW => ⟨A,c,rfl,hl,hf W' hW⟩
theorem Eln {k : IntKind} {l : List Int} (h : (Kd.int k).C w (some ad) n l) (i : Int) (h0 : 0 <= i) (h1 : i < n) : w.cell? (ad.add i.toNat) = some (.int k (rd l i)) := by
 obtain ⟨ad',he,hc⟩ := Ean h i h0 h1
 injection he with he
 subst he
 exact hc
theorem Egd (h : V d e W base ok (.slice A n c) xs) (hok : ∀ k,ok k -> k ≠ g) : ∀ W',Eaa W W' g none -> d.C W' A n xs := fun W' hk => by
 have h2 := V_reads' (Ekh h hk hok)
 rw [h2.1]
 exact h2.2.2
theorem Ecs {M : Nat -> Prop} (h : d.R e w1 W.heap.size ok v xs) (hle : w.heap.size <= W.heap.size) (hM : ∀ k,w.heap.size <= k -> M k) : d.R e w1 W.heap.size (fun k => M k ∧ ok k) v xs := Eak (Ect h) (fun k hk => ⟨hM k (Nat.le_trans hle hk.2.1),hk.1⟩)
end
end Kd
end Go.Proofs.YtgnijnlgbelifaaGreat.W.PrintWords
