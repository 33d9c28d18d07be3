-- PRINTED BY print.sh 35421559b90ae4d0a3588c463048766b98c2df88dd9212a6774a882060cdf62d: not written by this session
import Derived.Test.YtgnijnlgbelifaaGreatWShare
import Derived.Test.YtgnijnlgbelifaaGreatWZeros
namespace Go.Proofs.YtgnijnlgbelifaaGreat.W.PrintWords
open RowKit
namespace Kd
def chunks (sz : Nat) (n : Nat) (inner : List Value) : List (List Value) := (List.range n).map fun j => (inner.drop (j * sz)).take sz
theorem Edf (sz n : Nat) (inner : List Value) : (chunks sz n inner).length = n := by simp [chunks]
theorem Ekj {sz n : Nat} {inner : List Value} {j : Nat} (hj : j < n) : (chunks sz n inner)[j]? = some ((inner.drop (j * sz)).take sz) := by simp [chunks,hj]
theorem Egz {sz n : Nat} {inner : List Value} {j : Nat} {c : List Value} (h : (chunks sz n inner)[j]? = some c) : c = (inner.drop (j * sz)).take sz := by
 have hj : j < n := by have := (List.getElem?_eq_some_iff.1 h).1;rwa [Edf] at this
 rw [Ekj hj] at h
 injection h with h
 exact h.symm
theorem Elo {α : Type} {Rr : α -> List Value -> Prop} {sz : Nat} {xs : List α} {inner : List Value} (h : Reps Rr sz xs inner) (hR : ∀ x c,Rr x c -> c.length = sz ∧ ∀ u ∈ c,u.oneCell' = true) : Reps (fun x cs => cs = x ∧ cs.length = sz ∧ ∀ u ∈ cs,u.oneCell' = true) sz (chunks sz xs.length inner) inner := by
 refine ⟨by rw [Edf];exact h.1,fun j p hj => ?_⟩
 have hjl : j < xs.length := by have := (List.getElem?_eq_some_iff.1 hj).1;rwa [Edf] at this
 have hp := Egz hj
 exact ⟨hp.symm,hR _ _ (h.2 j _ (List.getElem?_eq_getElem hjl))⟩
section
variable {α : Type} {d : Kd α} {e base n cc g : Nat} {ok ok' okp S : Nat -> Prop} {w w1 W W1 : World} {A : Option Addr} {u v v1 : Value} {xs : List α} {x : α} {c : List Value}
def N {α : Type} (d : Kd α) (e : Nat) (w : World) (base : Nat) (ok : Nat -> Prop) (v : Value) (xs : List α) : Prop :=
 (∀ k,v.ownBlock = some k -> ok k) ∧ ∃ rows : List (List Value),rows.length = xs.length ∧ (raw d.sz).R e w base (fun k => some k = v.ownBlock) v rows ∧ ∀ (j : Nat) (x : α) (c : List Value),xs[j]? = some x -> rows[j]? = some c -> FK d w (fun k => ok k ∧ some k ≠ v.ownBlock) x c
theorem Ege {sz : Nat} {rows : List (List Value)} (h : (raw sz).R e w base ok v rows) : (raw sz).R e w base (fun k => some k = v.ownBlock) v rows := Edt rfl h
theorem Eik {sz : Nat} {rows : List (List Value)} (h : (raw sz).R e w base ok v rows) : (raw sz).R e w base (fun _ => True) v rows := Eak h (fun _ _ => trivial)
theorem R_N (h : d.R e w base ok v xs) : N d e w base ok v xs := by
 obtain ⟨h0,inner,ho,hr⟩ := h
 refine ⟨h0,chunks d.sz xs.length inner,Edf _ _ _,⟨fun k hk => hk.symm,inner,by rw [Edf];exact ho,Elo hr (fun x c hp => ⟨d.K_len (d.K_of_M hp),d.K_one (d.K_of_M hp)⟩)⟩,fun j x c hx hc => ?_⟩
 rw [Egz hc]
 exact Emm (hr.2 j x hx)
theorem S_N (h : Kd.S d e w base ok v xs) : N d e w base ok v xs := R_N (S_R h)
theorem Eet (d : Kd α) (e : Nat) (w : World) (base : Nat) (ok : Nat -> Prop) : N d e w base ok (.slice none 0 0) [] := R_N (Edv _ _ _ _ _)
theorem Eah (h : N d e w base ok v xs) (hok : ∀ k,ok k -> ok' k) : N d e w base ok' v xs := by
 obtain ⟨h0,rows,hl,hR,hf⟩ := h
 exact ⟨fun k hk => hok k (h0 k hk),rows,hl,hR,fun j x c hx hc => Eex (hf j x c hx hc) (fun k hk => ⟨hok k hk.1,hk.2⟩)⟩
theorem N_lt (h : N d e w base ok v xs) : ∀ k,v.ownBlock = some k -> k < w.heap.size := by
 obtain ⟨_,rows,_,hR,_⟩ := h
 exact R_lt hR
theorem Efc (h : N d e w base ok v xs) : ∀ k,v.ownBlock = some k -> base <= k := by
 obtain ⟨_,rows,_,hR,_⟩ := h
 exact Eap hR
theorem Egf (h : N d e w base ok v xs) : v.ownBlock = none ∨ ∃ k,v.ownBlock = some k ∧ base <= k := by
 obtain ⟨_,rows,_,hR,_⟩ := h
 exact Een hR
theorem N_ne (h : N d e w base ok v xs) {t : Nat} {cells : Array Value} (hb : w.heap[g]? = some (.cells cells t (0,0))) (ht : e ≠ t) : some g ≠ v.ownBlock := by
 obtain ⟨_,rows,_,hR,_⟩ := h
 exact R_ne hR hb ht
theorem Eoc (h : N d e w base ok v xs) (hok : ∀ k,ok k -> k ≠ g) : some g ≠ v.ownBlock := fun he => hok g (h.1 g he.symm) rfl
theorem Ehk (h : N d e w base ok v xs) : N d e w base (fun k => ok k ∧ k < w.heap.size) v xs := by
 have hlt := N_lt h
 obtain ⟨h0,rows,hl,hR,hf⟩ := h
 exact ⟨fun k hk => ⟨h0 k hk,hlt k hk⟩,rows,hl,hR,fun j x c hx hc => Eex (Eiw (hf j x c hx hc)) (fun k hk => ⟨⟨hk.1.1,hk.2⟩,hk.1.2⟩)⟩
theorem Ecq {base' : Nat} (h : N d e w base ok v xs) (hb : base' <= base) : N d e w base' ok v xs := by
 obtain ⟨h0,rows,hl,hR,hf⟩ := h
 exact ⟨h0,rows,hl,Eas hR hb,hf⟩
theorem Ehw (h : N d e w base ok v xs) (hm : ∀ k,ok k -> k < w.heap.size -> w1.heap[k]? = w.heap[k]?) : N d e w1 base ok v xs := by
 obtain ⟨h0,rows,hl,hR,hf⟩ := h
 exact ⟨h0,rows,hl,Efr hR (fun k hk hlt => hm k (h0 k hk.symm) hlt),fun j x c hx hc => Efx (hf j x c hx hc) (fun k hk hlt => hm k hk.1 hlt)⟩
theorem Ece (h : N d e w base ok v xs) (hb : Below w.heap.size w w1) : N d e w1 base ok v xs := Ehw h (fun k _ hk => hb.block k hk)
theorem Eil (h : N d e w base ok v xs) (o : Obj) : N d e (w.alloc o) base ok v xs := Ece h (Eav (Below.refl _ _) o)
theorem Efd (h : N d e w base ok v xs) : N d e w.drew base ok v xs := Ece h (Edi (Below.refl _ _))
theorem Eim (h : N d e w base ok v xs) (m : Nat) : N d e (w.drewN m) base ok v xs := Ece h (Ebg (Below.refl _ _) m)
theorem Edx (h : N d e w base ok v xs) {p : Addr} (hok : ∀ k,ok k -> k ≠ p.block) (u : Value) : N d e (w.setCell p u) base ok v xs := Ehw h (fun k ho _ => Below.heap_setCell w p u k (hok k ho))
theorem Emd (h : N d e w base ok v xs) (hk : Eaa w w1 g none) (hok : ∀ k,ok k -> k ≠ g) : N d e w1 base ok v xs := Ehw h (fun k ho hlt => hk.2 k hlt (hok k ho) (by simp))
theorem N_elder' (h : N d e W base ok v xs) (hbase : ∀ k,u.ownBlock = some k -> W.heap.size <= k) (hb : Below W.heap.size W w1) : N d e w1 base (fun k => ok k ∧ some k ≠ u.ownBlock) v xs :=
 Eah (Ece (Ehk h) hb) (fun k hk => ⟨hk.1,fun he => by have := hbase k he.symm;have := hk.2;omega⟩)
theorem Eda (h : N d e w base ok v xs) (a : Nat) (ha : w.heap.size <= a) : N d e w base (fun k => ok k ∧ k ≠ a) v xs := Eah (Ehk h) (fun k hk => ⟨hk.1,by have := hk.2;omega⟩)
theorem En (h : N d e W base (fun k => ok k ∧ some k ≠ u.ownBlock) v xs) {u1 : Value} (hg : W.grownBy w1 u.ownBlock) (hat : u1.ownBlock = u.ownBlock ∨ ∃ b,u1.ownBlock = some b ∧ W.heap.size <= b) : N d e w1 base (fun k => ok k ∧ some k ≠ u1.ownBlock) v xs := by
 refine Eah (Ehw (Ehk h) (fun k hk hlt => hg.block k hlt hk.1.2)) (fun k hk => ⟨hk.1.1,?_⟩)
 rcases hat with hat | ⟨b,hb,hle⟩
 ·rw [hat];exact hk.1.2
 ·rw [hb]
  intro he
  injection he with he
  have := hk.2
  omega
theorem Ekk (h : N d e W base (fun k => ok k ∧ k ≠ g) v xs) (hk : Eaa W w1 g none) : N d e w1 base (fun k => ok k ∧ k < W.heap.size) v xs := Eah (Emd (Ehk h) hk (fun _ hk => hk.1.2)) (fun _ hk => ⟨hk.1.1,hk.2⟩)
theorem Ehx {b : Nat} (h : N d e w1 base (fun k => ok k ∧ k < b) v xs) (hbase : ∀ k,u.ownBlock = some k -> b <= k) : N d e w1 base (fun k => (ok k ∧ some k ≠ u.ownBlock) ∧ k < b) v xs :=
 Eah h (fun k hk => ⟨⟨hk.1,fun e => Nat.lt_irrefl _ (Nat.lt_of_lt_of_le hk.2 (hbase k e.symm))⟩,hk.2⟩)
theorem Ebz (h : N d e w base ok v xs) : ∃ A c,v = .slice A xs.length c := by
 obtain ⟨_,rows,hl,hR,_⟩ := h
 obtain ⟨A,c,he⟩ := Eaj hR
 exact ⟨A,c,by rw [he,hl]⟩
theorem Ekl (h : N d e w base ok v xs) (hp : 0 < xs.length) : ∃ g cap,v = .slice (some ⟨g,0,none⟩) xs.length cap ∧ base <= g ∧ g < w.heap.size ∧ ∃ cells,w.heap[g]? = some (.cells cells e (0,0)) := by
 obtain ⟨_,rows,hl,hR,_⟩ := h
 rw [<- hl] at hp ⊢
 exact Ekw hR hp
theorem N_reads' {n c : Nat} (h : N d e w base ok (.slice A n c) xs) : n = xs.length ∧ n <= c ∧ d.C w A xs.length xs := by
 obtain ⟨_,rows,hl,hR,hf⟩ := h
 obtain ⟨hn,hc,hC⟩ := R_reads' hR
 refine ⟨by omega,hc,?_⟩
 rw [hl] at hC
 refine ⟨rfl,hC.2.1,fun hp => ?_⟩
 obtain ⟨ad,he,hcell⟩ := hC.2.2 hp
 refine ⟨ad,he,fun j p hj => ?_⟩
 have hjl : j < rows.length := by have := (List.getElem?_eq_some_iff.1 hj).1;omega
 obtain ⟨c',hcl,hK,hcc⟩ := hcell j _ (List.getElem?_eq_getElem hjl)
 have hk := Efp (hf j p _ hj (List.getElem?_eq_getElem hjl))
 refine ⟨c',hcl,?_,hcc⟩
 rw [show c' = rows[j] from hK.1]
 exact hk
theorem N_F {n : Nat} (h : N d e w base ok (.slice A n cc) xs) : F d w ok A n xs := fun W' hW => by
 have h2 := N_reads' (Ehw h hW)
 rw [h2.1]
 exact h2.2.2
theorem Egg {n cap : Nat} (h : N d e W base ok (.slice (some ⟨g,0,none⟩) n cap) xs) (z : α) (i : Int) (h0 : 0 <= i) (h1 : i < n) :
  ∃ c,c.length = d.sz ∧ FK d W (fun k => ok k ∧ k ≠ g) (xs.getD i.toNat z) c ∧ (∀ j u,c[j]? = some u -> W.cell? ⟨g,i.toNat * d.sz + j,none⟩ = some u) ∧ ∀ j,W.frozen? ⟨g,i.toNat * d.sz + j,none⟩ = false := by
 obtain ⟨_,rows,hl,hR,hf⟩ := h
 have hn := (R_reads' hR).1
 obtain ⟨c,hcl,hM,hcc,hfr⟩ := Ejb hR [] i h0 h1
 have hil : i.toNat < rows.length := by omega
 have hil' : i.toNat < xs.length := by omega
 have hc : c = rows[i.toNat] := by
  have h2 := hM.1
  rwa [List.getD_eq_getElem?_getD,List.getElem?_eq_getElem hil] at h2
 refine ⟨c,hcl,?_,hcc,hfr⟩
 rw [List.getD_eq_getElem?_getD,List.getElem?_eq_getElem hil']
 exact Eex (hf _ _ _ (List.getElem?_eq_getElem hil') (by rw [hc];exact List.getElem?_eq_getElem hil)) (fun k hk => ⟨hk.1,fun he => hk.2 (by rw [he];simp [Value.ownBlock])⟩)
theorem Ejf {ad : Addr} {n cap : Nat} (h : N d e W base ok (.slice (some ad) n cap) xs) (z : α) (i : Int) (h0 : 0 <= i) (h1 : i < n) :
  ∃ c,c.length = d.sz ∧ FK d W (fun k => ok k ∧ some k ≠ (Value.slice (some ad) n cap).ownBlock) (xs.getD i.toNat z) c ∧ ∀ j u,c[j]? = some u -> W.cell? (ad.add (i.toNat * d.sz + j)) = some u := by
 obtain ⟨g,rfl⟩ : ∃ g,ad = ⟨g,0,none⟩ := by
  obtain ⟨_,rows,_,hR,_⟩ := h
  exact Elz hR
 obtain ⟨c,hcl,hM,hcc,_⟩ := Egg h z i h0 h1
 refine ⟨c,hcl,Eex hM (fun k hk => ⟨hk.1,fun he => hk.2 (by simpa [Value.ownBlock] using he)⟩),fun j u hu => ?_⟩
 rw [Eky,Nat.zero_add]
 exact hcc j u hu
end
end Kd
end Go.Proofs.YtgnijnlgbelifaaGreat.W.PrintWords
