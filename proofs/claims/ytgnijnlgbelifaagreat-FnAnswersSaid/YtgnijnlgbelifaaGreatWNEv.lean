-- PRINTED BY print.sh 35421559b90ae4d0a3588c463048766b98c2df88dd9212a6774a882060cdf62d: not written by this session
import Derived.Test.YtgnijnlgbelifaaGreatWN
namespace Go.Proofs.YtgnijnlgbelifaaGreat.W.PrintWords
open RowKit
namespace Kd
section
variable {α : Type} {d : Kd α} {e base n cap g : Nat} {ok ok' okp : Nat -> Prop} {w w1 W : World} {v v1 : Value} {xs ys : List α}
theorem Ejd {rows news : List (List Value)} (h0 : ∀ k,v.ownBlock = some k -> ok k) (hl : rows.length = xs.length) (hf : ∀ (j : Nat) (x : α) (c : List Value),xs[j]? = some x -> rows[j]? = some c -> FK d W (fun k => ok k ∧ some k ≠ v.ownBlock) x c)
  (hl2 : news.length = ys.length) (hf2 : ∀ (j : Nat) (x : α) (c : List Value),ys[j]? = some x -> news[j]? = some c -> FK d W okp x c) (hokp : ∀ k,okp k -> ok k ∧ some k ≠ v.ownBlock) (hfresh : ∀ k,W.heap.size <= k -> ok k)
  (hR : (raw d.sz).R e w1 base (fun _ => True) v1 (rows ++ news)) (hg : W.grownBy w1 v.ownBlock) (hat : v1.ownBlock = v.ownBlock ∨ ∃ b,v1.ownBlock = some b ∧ W.heap.size <= b) : N d e w1 base ok v1 (xs ++ ys) := by
 have hne : ∀ k,some k ≠ v.ownBlock -> k < W.heap.size -> some k ≠ v1.ownBlock := by
  intro k hk hlt
  rcases hat with hat | ⟨b,hb,hle⟩
  ·rw [hat];exact hk
  ·rw [hb]
   intro he
   injection he with he
   omega
 have step : ∀ {x : α} {c : List Value} {o : Nat -> Prop},FK d W o x c -> (∀ k,o k -> ok k ∧ some k ≠ v.ownBlock) -> FK d w1 (fun k => ok k ∧ some k ≠ v1.ownBlock) x c := by
  intro x c o hq ho
  exact Eex (Efx (Eiw hq) (fun k hk hlt => hg.block k hlt (ho k hk.1).2)) (fun k hk => ⟨(ho k hk.1).1,hne k (ho k hk.1).2 hk.2⟩)
 refine ⟨fun k hk => ?_,rows ++ news,by rw [List.length_append,List.length_append,hl,hl2],Ege hR,fun j x c hx hc => ?_⟩
 ·rcases hat with hat | ⟨b,hb,hle⟩
  ·exact h0 k (hat ▸ hk)
  ·rw [hb] at hk
   injection hk with hk
   exact hfresh k (by omega)
 ·rcases Nat.lt_or_ge j xs.length with hlt | hge
  ·rw [List.getElem?_append_left hlt] at hx
   rw [List.getElem?_append_left (by omega)] at hc
   exact step (hf j x c hx hc) (fun _ hk => hk)
  ·rw [List.getElem?_append_right hge] at hx
   rw [List.getElem?_append_right (by omega),hl] at hc
   exact step (hf2 _ x c hx hc) hokp
theorem Enk {x : α} {c : List Value} (h : FK d W ok x c) : c = c ∧ c.length = d.sz ∧ ∀ u ∈ c,u.oneCell' = true := ⟨rfl,d.K_len (Efp h),d.K_one (Efp h)⟩
theorem Ejm {rows : List (List Value)} {i : Int} {x' : α} {c' : List Value} (h0 : ∀ k,(Value.slice (some ⟨g,0,none⟩) n cap).ownBlock = some k -> ok k) (hl : rows.length = xs.length) (hf : ∀ (j : Nat) (x : α) (c : List Value),xs[j]? = some x -> rows[j]? = some c -> FK d W (fun k => ok k ∧ some k ≠ (Value.slice (some ⟨g,0,none⟩) n cap).ownBlock) x c)
  (hR : (raw d.sz).R e w1 base (fun _ => True) (.slice (some ⟨g,0,none⟩) n cap) (rows.set i.toNat c')) (hg : W.grownBy w1 (some g)) (hM : FK d W okp x' c') (hokp : ∀ k,okp k -> ok k ∧ k ≠ g) : N d e w1 base ok (.slice (some ⟨g,0,none⟩) n cap) (xs.set i.toNat x') := by
 have hgo : some g = (Value.slice (some ⟨g,0,none⟩) n cap).ownBlock := by simp [Value.ownBlock]
 refine ⟨h0,rows.set i.toNat c',by rw [List.length_set,List.length_set,hl],Ege hR,fun j x c hx hc => ?_⟩
 have hjl : j < xs.length := by have := (List.getElem?_eq_some_iff.1 hx).1;rwa [List.length_set] at this
 by_cases hji : j = i.toNat
 ·subst hji
  rw [List.getElem?_set_self hjl] at hx
  rw [List.getElem?_set_self (by omega)] at hc
  injection hx with hx
  injection hc with hc
  rw [<- hx,<- hc]
  exact Eex (Efx hM (fun k hk hlt => hg.block k hlt (fun he => (hokp k hk).2 (by injection he)))) (fun k hk => ⟨(hokp k hk).1,fun he => (hokp k hk).2 (by rw [<- hgo] at he;injection he)⟩)
 ·rw [List.getElem?_set_ne (Ne.symm hji)] at hx hc
  exact Efx (hf j x c hx hc) (fun k hk hlt => hg.block k hlt (by rw [hgo];exact hk.2))
theorem Ele {rows : List (List Value)} {k : Nat} (h0 : ∀ k,(Value.slice (some ⟨g,0,none⟩) n cap).ownBlock = some k -> ok k) (hl : rows.length = xs.length) (hf : ∀ (j : Nat) (x : α) (c : List Value),xs[j]? = some x -> rows[j]? = some c -> FK d W (fun k => ok k ∧ some k ≠ (Value.slice (some ⟨g,0,none⟩) n cap).ownBlock) x c)
  {n' : Nat} (hR : (raw d.sz).R e w1 base (fun _ => True) (.slice (some ⟨g,0,none⟩) n' cap) (rows.eraseIdx k)) (hg : W.grownBy w1 (some g)) : N d e w1 base ok (.slice (some ⟨g,0,none⟩) n' cap) (xs.eraseIdx k) := by
 have hgo : ∀ m,some g = (Value.slice (some ⟨g,0,none⟩) m cap).ownBlock := fun m => by simp [Value.ownBlock]
 refine ⟨fun b hb => h0 b (by rw [<- hgo] at hb ⊢;exact hb),rows.eraseIdx k,by rw [List.length_eraseIdx,List.length_eraseIdx,hl],Ege hR,fun j x c hx hc => ?_⟩
 rw [List.getElem?_eraseIdx] at hx hc
 have key : ∀ j',xs[j']? = some x -> rows[j']? = some c -> FK d w1 (fun k => ok k ∧ some k ≠ (Value.slice (some ⟨g,0,none⟩) n' cap).ownBlock) x c := fun j' h1 h2 =>
  Eex (Efx (hf j' x c h1 h2) (fun b hb hlt => hg.block b hlt (by rw [hgo n];exact hb.2))) (fun b hb => ⟨hb.1,by rw [<- hgo];rw [<- hgo] at hb;exact hb.2⟩)
 by_cases hjk : j < k
 ·rw [if_pos hjk] at hx hc
  exact key _ hx hc
 ·rw [if_neg hjk] at hx hc
  exact key _ hx hc
theorem Emg (h : N d e W base ok (.slice (some ⟨g,0,none⟩) n cap) xs) (i : Int) (h0 : 0 <= i) (h1 : i < n) {c seg : List Value} {j : Nat} (hcl : c.length = d.sz) (hcc : ∀ j u,c[j]? = some u -> W.cell? ⟨g,i.toNat * d.sz + j,none⟩ = some u)
  (hj : j + seg.length <= d.sz) {x' : α} (hM : FK d W okp x' (c.take j ++ seg ++ c.drop (j + seg.length))) (hokp : ∀ k,okp k -> ok k ∧ k ≠ g) :
  N d e (W.setCells g (i.toNat * d.sz + j) seg) base ok (.slice (some ⟨g,0,none⟩) n cap) (xs.set i.toNat x') ∧ W.grownBy (W.setCells g (i.toNat * d.sz + j) seg) (some g) := by
 obtain ⟨hown,rows,hl,hR,hf⟩ := h
 obtain ⟨h2,h3⟩ := Eon (Eik hR) i h0 h1 (c := c) (seg := seg) (j := j) (x' := c.take j ++ seg ++ c.drop (j + seg.length)) (okp := fun _ => False) hcl hcc hj ⟨rfl,d.K_len (Efp hM),d.K_one (Efp hM)⟩ (fun _ hk => hk.elim)
 exact ⟨Ejm hown hl hf h2 h3 hM hokp,h3⟩
end
section
variable {P : Program} {ops : Array Oper} {rest : List Oper} {o : Oper} {a : Act} {Q : Exit -> Act -> World -> Prop} {Kc : Act -> World -> Prop} {α : Type}
theorem Ehg (d : Kd α) {w0 W : World} (base : Nat) (hgd : o.guard = none) (s x : Operand) (t e : TypeId) (z : Value) (bytes : Nat)
  (ho : o.op = .call { callee := .builtin .append,args := #[s,x],argTypes := #[t,t] })
  (ht : P.underlying t = some (.slice e)) (hinfo : (P.info? e).map (fun i => (i.zero,i.size,i.bytes)) = some (some z,d.sz,bytes)) (hz : z.cells.size = d.sz) (hs0 : 0 < d.sz) (hb0 : 0 < bytes)
  (v : Value) (xs : List α) (p : α) (cs : List Value) (ok okp : Nat -> Prop) (hs : a.eval s = v) (hx : a.eval x = .slice (some ⟨W.heap.size,0,none⟩) 1 1) (hp : FK d W okp p cs) (hokp : ∀ k,okp k -> ok k ∧ some k ≠ v.ownBlock) (hfresh : ∀ k,W.heap.size <= k -> ok k)
  (HO : N d e W base ok v xs) (HB : Below base w0 W) (hbase : base <= W.heap.size) (hl : (xs.length + 1) * bytes <= 140737488355328)
  (h : ∀ v1 w1,N d e w1 base ok v1 (xs ++ [p]) -> Below base w0 w1 -> W.grownBy w1 v.ownBlock -> (v1.ownBlock = v.ownBlock ∨ ∃ b,v1.ownBlock = some b ∧ W.heap.size <= b) -> wpList P ops Q rest (a.put o.dst v1) w1) :
  wpList P ops Q (o :: rest) a (W.alloc (.cells cs.toArray e)) := by
 obtain ⟨h0,rows,hlr,hR,hf⟩ := HO
 refine Edl (raw d.sz) base hgd s x t e z bytes ho ht hinfo hz hs0 hb0 v rows cs cs (fun _ => True) (fun _ => False) hs hx (Enk hp) (fun _ hk => hk.elim) (fun _ _ => trivial) (Eik hR) HB hbase (by rw [hlr];exact hl) ?_
 intro v1 w1 hr hb hg hat
 exact h v1 w1 (Ejd h0 hlr hf (ys := [p]) (news := [cs]) rfl (fun j y c hy hc => by
  rcases j with _ | j
  ·simp only [List.getElem?_cons_zero,Option.some.injEq] at hy hc
   rw [<- hy,<- hc];exact hp
  ·simp at hy) hokp hfresh hr hg hat) hb hg hat
theorem Ehh (d : Kd α) {w0 W : World} (base : Nat) (hw : Region.wanted o (yielded ops a.tmps) = true) (s x : Operand) (t e : TypeId) (ho : o.op = .call { callee := .builtin .append,args := #[s,x],argTypes := #[t,t] })
  (ht : P.underlying t = some (.slice e)) (hinfo : (P.info? e).map (·.size) = some d.sz) {g n c k m c2 : Nat} {A : Option Addr} {xs : List α} {ok : Nat -> Prop}
  (hs : a.eval s = .slice (some ⟨g,0,none⟩) k c) (hx : a.eval x = .slice A m c2) (hA : A = if c = k + 1 then some ⟨g,0,none⟩ else (some (⟨g,0,none⟩ : Addr)).map (·.add ((k + 1) * d.sz))) (hm : m = n - (k + 1))
  (HO : N d e W base ok (.slice (some ⟨g,0,none⟩) n c) xs) (hk : k < n) (HB : Below base w0 W) (hbase : base <= W.heap.size)
  (h : ∀ w1,N d e w1 base ok (.slice (some ⟨g,0,none⟩) (n - 1) c) (xs.eraseIdx k) -> Below base w0 w1 -> W.grownBy w1 (some g) -> Kc (a.put o.dst (.slice (some ⟨g,0,none⟩) (n - 1) c)) w1) :
  if Region.wanted o (yielded ops a.tmps) = true then Oper.wp P o a W Kc Q else Kc (a.put o.dst undef) W := by
 obtain ⟨hown,rows,hl,hR,hf⟩ := HO
 exact Ehp (raw d.sz) base hw s x t e ho ht hinfo hs hx hA hm (Eik hR) hk HB hbase (fun w1 hr hb hg => h w1 (Ele hown hl hf hr hg) hb hg)
end
end Kd
end Go.Proofs.YtgnijnlgbelifaaGreat.W.PrintWords
