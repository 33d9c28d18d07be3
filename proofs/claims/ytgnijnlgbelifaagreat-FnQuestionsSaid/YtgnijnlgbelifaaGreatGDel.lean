/- slices.DeleteFunc over a row of the call's own,of elements of any kind,at a predicate that may lay blocks of its own: over any program. -/
import Derived.Shelf.SlicesE.DeleteFunc
import Derived.Test.YtgnijnlgbelifaaGreatGIdx
set_option linter.unusedVariables false
set_option linter.unusedSimpArgs false
namespace Go.Proofs.YtgnijnlgbelifaaGreatW.GDel
open Go Go.Proofs Go.Shelf Go.RowKit Go.Lib Go.Proofs.YtgnijnlgbelifaaGreatW.PrintWords Go.Proofs.YtgnijnlgbelifaaGreatW.GIdx
variable {P : Program} {ρ : Ren} {α : Type}
structure n10 (P : Program) (ρ : Ren) : Prop where
 mixed : P.follows .mixedOrders = true
 f6 : Bears P (ρ.f 6) (SlBodyH.n6 ρ)
 f10 : Bears P (ρ.f 10) (SlBodyH.n10 ρ)
 t0 : P.underlying (ρ.t 0) = some (TypeDesc.tuple #[])
 a0 : ∀ w,(isAgg (ρ.t 0)).run P w = .ok false w
 z0 : ∀ w,(Go.sizeOf (ρ.t 0)).run P w = .ok 1 w
 v0 : ∀ w,(zeroValue (ρ.t 0)).run P w = .ok (Value.tuple #[]) w
 t3 : P.underlying (ρ.t 3) = some (TypeDesc.int IntKind.i64)
 a3 : ∀ w,(isAgg (ρ.t 3)).run P w = .ok false w
 z3 : ∀ w,(Go.sizeOf (ρ.t 3)).run P w = .ok 1 w
 v3 : ∀ w,(zeroValue (ρ.t 3)).run P w = .ok (Value.int IntKind.i64 0) w
 t4 : P.underlying (ρ.t 4) = some (TypeDesc.bool)
 a4 : ∀ w,(isAgg (ρ.t 4)).run P w = .ok false w
 z4 : ∀ w,(Go.sizeOf (ρ.t 4)).run P w = .ok 1 w
 v4 : ∀ w,(zeroValue (ρ.t 4)).run P w = .ok (Value.bool false) w
 t22 : P.underlying (ρ.t 22) = some (TypeDesc.slice (ρ.t 23))
 a22 : ∀ w,(isAgg (ρ.t 22)).run P w = .ok false w
 z22 : ∀ w,(Go.sizeOf (ρ.t 22)).run P w = .ok 1 w
 v22 : ∀ w,(zeroValue (ρ.t 22)).run P w = .ok (Value.slice none 0 0) w
 t25 : P.underlying (ρ.t 25) = some (TypeDesc.func #[ρ.t 23] #[ρ.t 4] false)
 a25 : ∀ w,(isAgg (ρ.t 25)).run P w = .ok false w
 z25 : ∀ w,(Go.sizeOf (ρ.t 25)).run P w = .ok 1 w
 v25 : ∀ w,(zeroValue (ρ.t 25)).run P w = .ok (Value.nilFunc) w
theorem Ekp (w : World) (t e ty : TypeId) (z : Value) (ht : P.underlying t = some (.slice e)) (hv : ∀ w,(zeroValue e).run P w = .ok z w) (b o n c : Nat) (hn : 0 < n) (h1 : ∀ v ∈ (Builtin.zeroCells z.cells n).toList,v.oneCell' = true)
  (hc : ∀ j,j < (Builtin.zeroCells z.cells n).toList.length -> (w.cell? ⟨b,o + j,none⟩).isSome = true) (hf : ∀ j,j < (Builtin.zeroCells z.cells n).toList.length -> w.frozen? ⟨b,o + j,none⟩ = false) :
  (Builtin.clear_ #[t] ty #[.slice (some ⟨b,o,none⟩) n c]).run P w = .ok (.tuple #[]) (w.setCells b o (Builtin.zeroCells z.cells n).toList) := by
 have hst := run_storeCells_cells (P := P) b o (Builtin.zeroCells z.cells n).toList 0 w (by simpa using hc) (by simpa using hf) h1
 simp only [Nat.add_zero] at hst
 obtain ⟨m,rfl⟩ : ∃ m,n = m + 1 := ⟨n - 1,by omega⟩
 simp [Builtin.clear_,run_underlying ht,hv,hst]
theorem Eiy {d : Kd α} {e base g n cap m : Nat} {ok : Nat -> Prop} {W : World} {xs : List α} (h : d.R e W base ok (.slice (some ⟨g,0,none⟩) n cap) xs) (hm : m <= n) : d.R e W base ok (.slice (some ⟨g,0,none⟩) m cap) (xs.take m) := by
 obtain ⟨hn,hnc,_⟩ := Kd.R_reads' h
 obtain ⟨hok,inner,ho,hr⟩ := h
 rcases ho.2 with ⟨hv,_⟩ | ⟨g',cap',cur,hv,hb,hh,hnc',hcm,hcs,ht⟩
 ·cases hv
 injection hv with ha _ hc
 injection ha with ha
 injection ha with hg
 subst hg;subst hc
 have hl : (xs.take m).length = m := by rw [List.length_take];omega
 have hle : m * d.sz <= xs.length * d.sz := Nat.mul_le_mul_right _ (by omega)
 refine ⟨hok,inner.take (m * d.sz),⟨by rw [List.length_take,hr.1,hl];omega,.inr ⟨g,cap,cur,by rw [hl],hb,hh,by rw [hl];omega,hcm,hcs,?_⟩⟩,by rw [List.length_take,hr.1,hl];omega,fun j p hj => ?_⟩
 ·rw [hl,<- ht,List.take_take,Nat.min_eq_left hle]
 ·have hjm : j < m := by have := (List.getElem?_eq_some_iff.1 hj).1;omega
  rw [List.getElem?_take,if_pos hjm] at hj
  have := hr.2 j p hj
  have e1 : ((inner.take (m * d.sz)).drop (j * d.sz)).take d.sz = (inner.drop (j * d.sz)).take d.sz := by
   have hb2 : j * d.sz + d.sz <= m * d.sz := by rw [<- Nat.succ_mul];exact Nat.mul_le_mul_right _ hjm
   rw [List.drop_take,List.take_take,Nat.min_eq_left (by omega)]
  rw [e1]
  exact this
theorem Elq {d : Kd α} {e base g n cap : Nat} {ok : Nat -> Prop} {W : World} {xs : List α} (h : d.R e W base ok (.slice (some ⟨g,0,none⟩) n cap) xs) (o : Nat) (vs : List Value) (ho1 : n * d.sz <= o) (ho2 : o + vs.length <= cap * d.sz) :
  d.R e (W.setCells g o vs) base ok (.slice (some ⟨g,0,none⟩) n cap) xs ∧ W.grownBy (W.setCells g o vs) (some g) := by
 obtain ⟨hn,hnc,_⟩ := Kd.R_reads' h
 obtain ⟨hok,inner,ho,hr⟩ := h
 rcases ho.2 with ⟨hv,_⟩ | ⟨g',cap',cur,hv,hb,hh,hnc',hcm,hcs,ht⟩
 ·cases hv
 injection hv with ha _ hc
 injection ha with ha
 injection ha with hg
 subst hg;subst hc
 obtain ⟨cur',h3,h4,h5⟩ := Edn vs o W cur hh (by omega)
 obtain ⟨s1,s2,s3,s4⟩ := Edf g vs o W
 have hfar : ∀ k,k ≠ g -> (W.setCells g o vs).heap[k]? = W.heap[k]? := fun k hk => Edm vs _ k hk
 refine ⟨⟨hok,inner,⟨ho.1,.inr ⟨g,cap,cur',by rw [hn],hb,h3,by omega,hcm,by omega,?_⟩⟩,hr.1,fun j p hj => ?_⟩,⟨s1,s2,s3,by rw [s4];exact Nat.le_refl _,fun k _ hk => hfar k (fun he => hk (by rw [he]))⟩⟩
 ·have hto : (cur.toList.take o).length = o := by rw [List.length_take,Array.length_toList];omega
  rw [h5,List.append_assoc,List.take_append_of_le_length (by rw [hto,<- hn];exact ho1),List.take_take,Nat.min_eq_left (by rw [<- hn];exact ho1)]
  exact ht
 ·refine d.M_mono (fun _ hk => hk) (d.M_move (fun k hk => hfar k (fun he => hk.2 (by rw [he];simp [Value.ownBlock]))) (hr.2 j p hj))
theorem grownBy_trans {w w1 w2 : World} {row : Option Nat} (h : w.grownBy w1 row) (k : w1.grownBy w2 row) : w.grownBy w2 row :=
 ⟨k.os.trans h.os,k.tape.trans h.tape,k.output.trans h.output,Nat.le_trans h.size k.size,fun j hj hr => (k.block j (Nat.lt_of_lt_of_le hj h.size) hr).trans (h.block j hj hr)⟩
theorem grownBy_below {w w1 : World} (row : Option Nat) (h : Below w.heap.size w w1) : w.grownBy w1 row := ⟨h.os,h.tape,h.output,h.size,fun j hj _ => h.block j hj⟩
theorem Ekq {d : Kd α} {e base : Nat} {ok : Nat -> Prop} {W : World} {v : Value} {xs : List α} (h : d.R e W base ok v xs) : xs = [] ∧ v = .slice none 0 0 ∨ ∃ g cap,v = .slice (some ⟨g,0,none⟩) xs.length cap ∧ base <= g ∧ g < W.heap.size ∧ xs.length <= cap ∧ (∃ cur,W.heap[g]? = some (.cells cur e (0,0)) ∧ cur.size = cap * d.sz) ∧ cap <= maxLen := by
 obtain ⟨_,inner,ho,hr⟩ := h
 rcases ho.2 with ⟨hv,h0⟩ | ⟨g,cap,cur,hv,hb,hh,hnc,hcm,hcs,ht⟩
 ·exact .inl ⟨List.eq_nil_of_length_eq_zero h0,hv⟩
 ·exact .inr ⟨g,cap,hv,hb,Eau hh,hnc,⟨cur,hh,hcs⟩,hcm⟩
theorem Elr {p : α -> Option Bool} {f : α -> Bool} {xs : List α} (h : ∀ x,x ∈ xs -> p x = some (f x)) : (idxO p xs 0 = some (-1) ∧ xs.filter (fun x => !f x) = xs) ∨ ∃ m,m < xs.length ∧ idxO p xs 0 = some (m : Int) ∧ (∃ x,xs[m]? = some x ∧ f x = true) ∧ (xs.take m).filter (fun x => !f x) = xs.take m := by
 have h1 := Ehs (i := 0) h
 cases hq : xs.findIdx? f with
 | none =>
  left
  rw [hq] at h1
  refine ⟨h1,List.filter_eq_self.2 fun x hx => ?_⟩
  have := List.findIdx?_eq_none_iff.1 hq x hx
  simp [this]
 | some m =>
  right
  rw [hq] at h1
  obtain ⟨hm,hp,hall⟩ := List.findIdx?_eq_some_iff_getElem.1 hq
  refine ⟨m,hm,by simpa using h1,⟨xs[m],List.getElem?_eq_getElem hm,hp⟩,List.filter_eq_self.2 fun x hx => ?_⟩
  obtain ⟨j,hj,rfl⟩ := List.mem_take_iff_getElem.1 hx
  have := hall j (by omega)
  simp only [Bool.not_eq_true] at this
  simp [this]
theorem Ekr {f : α -> Bool} {xs ys : List α} {i j : Nat} {x : α} (hx : xs[j]? = some x) (hl : ys.length = xs.length) (hij : i < j) (hd : ys.drop j = xs.drop j) (ht : ys.take i = (xs.take j).filter fun x => !f x) :
  (f x = true -> ys.take i = (xs.take (j + 1)).filter fun x => !f x) ∧ (f x = false -> (ys.set i x).take (i + 1) = (xs.take (j + 1)).filter fun x => !f x) ∧ ys.drop (j + 1) = xs.drop (j + 1) ∧ (ys.set i x).drop (j + 1) = xs.drop (j + 1) := by
 have hj : j < xs.length := (List.getElem?_eq_some_iff.1 hx).1
 have he : xs[j] = x := (List.getElem?_eq_some_iff.1 hx).2
 have h2 : ys.drop (j + 1) = xs.drop (j + 1) := by rw [<- List.drop_drop,<- List.drop_drop,hd]
 have h3 : xs.take (j + 1) = xs.take j ++ [x] := by rw [List.take_succ_eq_append_getElem hj,he]
 refine ⟨fun hf => ?_,fun hf => ?_,h2,?_⟩
 ·rw [h3,List.filter_append,<- ht]
  simp [hf]
 ·rw [h3,List.filter_append,<- ht,List.take_set,List.take_succ_eq_append_getElem (by omega),List.set_append_right _ _ (by rw [List.length_take];omega)]
  simp [hf,List.length_take,Nat.min_eq_left (show i <= ys.length by omega)]
 ·rw [List.drop_set_of_lt (by omega)]
  exact h2
set_option maxHeartbeats 4000000 in
theorem Emw (L : SlLaysH.n10 P ρ) (d : Kd α) (h1 : d.sz = 1) (z : Value) (vE : ∀ w,(zeroValue (ρ.t 23)).run P w = .ok z w) (hz : z.cells.size = 1) (hz1 : ∀ u ∈ z.cells,u.oneCell' = true)
  (p : α -> Option Bool) (f : α -> Bool) (g : Nat) (lb : Array Value) (eg : ∀ args w,(callFunc g args).run P w = .ok (.enter g args) w)
  (e base : Nat) (ok : Nat -> Prop) (v : Value) (xs : List α) (w : World) (hr : d.R e w base ok v xs) (hpf : ∀ x,x ∈ xs -> p x = some (f x))
  (hp : ∀ (W : World) (x : α) (u : Value) (b : Bool),w.grownBy W v.ownBlock -> x ∈ xs -> d.K W x [u] -> p x = some b -> Calls P g (#[u] ++ lb) W fun e w' => e = .returned (.bool b) ∧ Below W.heap.size W w') :
  Calls P (ρ.f 10) #[v,.func (.func g) #[] lb] w fun ex w' => ∃ v',ex = .returned v' ∧ d.R e w' base ok v' (xs.filter fun x => !f x) ∧ v'.ownBlock = v.ownBlock ∧ w.grownBy w' v.ownBlock := by
 obtain ⟨A,c,hv,hc,hC⟩ := Kd.Ehh hr
 have hbig : xs.length <= 9223372036854775807 := hC.2.1
 have hIF := fun r h => Ejq (P := P) (ρ := ρ) { L with } d h1 p g lb eg A xs.length c xs w rfl hC r (fun W x cs b hb hx hK hpx => by
  refine (hp W x cs b (grownBy_below _ hb) hx (d.K_below hb hK) hpx).mono ?_
  rintro e w' ⟨he,hb'⟩
  exact ⟨he,hb.trans (hb'.mono hb.size)⟩) h
 have mixed := L.mixed;have t0 := L.t0;have a0 := L.a0;have z0 := L.z0;have v0 := L.v0;have t3 := L.t3;have a3 := L.a3;have z3 := L.z3;have v3 := L.v3;have t4 := L.t4;have a4 := L.a4;have z4 := L.z4;have v4 := L.v4;have t22 := L.t22;have a22 := L.a22;have z22 := L.z22;have v22 := L.v22;have a23 := L.a23;have z23 := L.z23;have t25 := L.t25;have a25 := L.a25;have z25 := L.z25;have v25 := L.v25
 have e6 : ∀ args w,(callFunc (ρ.f 6) args).run P w = .ok (.enter (ρ.f 6) args) w := L.f6.enters rfl
 rcases Elr hpf with ⟨e1,hfil⟩ | ⟨m,hm,e1,⟨xm,hxm,hfm⟩,hfil⟩
 ·-- no element is struck
  have hcon := Aside0.mk (hIF _ e1)
  rw [hfil]
  have HR := Aside0.mk hr
  clear hIF hp hpf hC hr hfil e1
  subst hv
  obtain ⟨_,_,FG⟩ := L.f10
  go_enter FG,SlBodyH.n10_ntmps ρ
  go_wp2_with (go_at_fn (ρ.f 6);refine hcon.out.mono ?_;rintro e w' ⟨rfl,hb⟩)
  go_ret
  exact ⟨_,rfl,Kd.Ebj HR.out hb,rfl,grownBy_below _ hb⟩
 ·have hn0 : 0 < xs.length := by omega
  rcases Ekq hr with ⟨h0,_⟩ | ⟨gb,cap,hv2,hgb,hgl,hlc,⟨cur,hcur,hcs⟩,hcm⟩
  ·rw [h0] at hn0;simp at hn0
  obtain ⟨n,hn⟩ : ∃ n,n = xs.length := ⟨_,rfl⟩
  rw [hv2] at hv
  injection hv with hA _ hc'
  subst hA;subst hc'
  have hcon := Aside0.mk (hIF _ e1)
  have HR0 := Aside0.mk hr
  subst hv2
  have HP : Aside0 (∀ (W : World) (x : α) (u : Value) (b : Bool),w.grownBy W (some gb) -> x ∈ xs -> d.K W x [u] -> p x = some b -> Calls P g (#[u] ++ lb) W fun e w' => e = .returned (.bool b) ∧ Below W.heap.size W w') := ⟨hp⟩
  have HPF := Aside0.mk hpf
  have HM : Aside0 (∃ x,xs[m]? = some x ∧ f x = true) := ⟨⟨xm,hxm,hfm⟩⟩
  have HF := Aside0.mk hfil
  have HZ : Aside0 (z.cells.size = 1 ∧ (∀ u ∈ z.cells,u.oneCell' = true) ∧ d.sz = 1) := ⟨hz,hz1,h1⟩
  have hne1 : ((m : Int) == -1) = false := beq_eq_false_iff_ne.2 (by omega)
  have HN := Aside0.mk hn
  have HX := Aside0.mk hm
  rw [<- hn] at hcon hlc hbig hm ⊢
  have HR : Aside0 (d.R e w base ok (.slice (some ⟨gb,0,none⟩) n cap) xs) := ⟨by rw [hn];exact HR0.out⟩
  clear hIF hp hpf hC hr hfil e1 hxm hfm HR0 hz hz1 h1 hn hcur hcs hn0
  show Calls P (ρ.f 10) #[.slice (some ⟨gb,0,none⟩) n cap,.func (.func g) #[] lb] w fun ex w' => ∃ v',ex = .returned v' ∧ d.R e w' base ok v' (xs.filter fun x => !f x) ∧ v'.ownBlock = some gb ∧ w.grownBy w' (some gb)
  obtain ⟨_,_,FG⟩ := L.f10
  go_enter FG,SlBodyH.n10_ntmps ρ
  go_wp2_with (go_at_fn (ρ.f 6);refine hcon.out.mono ?_;rintro e w' ⟨rfl,hb0⟩)
  go_loopg [5,6,7] n (fun gg s5 s6 _ wr => ∃ (i j : Nat) (ys : List α),s5 = .int .i64 i ∧ s6 = .int .i64 j ∧ j <= n ∧ n - j <= gg ∧ i < j ∧ Aside0 (d.R e wr base ok (.slice (some ⟨gb,0,none⟩) n cap) ys) ∧ Aside0 (w.grownBy wr (some gb)) ∧ Aside0 (ys.length = n) ∧ Aside0 (ys.drop j = xs.drop j) ∧ Aside0 (ys.take i = (xs.take j).filter fun x => !f x))
  case atStart =>
   refine ⟨m,m + 1,xs,rfl,by go_num,by omega,by omega,by omega,⟨Kd.Ebj HR.out hb0⟩,⟨grownBy_below _ hb0⟩,⟨HN.out.symm⟩,⟨rfl⟩,⟨?_⟩⟩
   obtain ⟨x,hx,hfx⟩ := HM.out
   have hlt := (List.getElem?_eq_some_iff.1 hx).1
   rw [List.take_succ_eq_append_getElem hlt,List.filter_append,HF.out,(List.getElem?_eq_some_iff.1 hx).2]
   simp [hfx]
  case round =>
   obtain ⟨i,j,ys,rfl,rfl,hjn,hgg,hij,HO,HG,HL,HD,HT⟩ := hrel
   by_cases hlt : j < n
   ·have hltz : (j : Int) < (n : Int) := by omega
    have hjx : j < xs.length := by rw [<- HN.out];exact hlt
    have hx : xs[j]? = some xs[j] := List.getElem?_eq_getElem hjx
    have hy : ys.getD j xs[j] = xs[j] := by
     have : (ys.drop j)[0]? = (xs.drop j)[0]? := by rw [HD.out]
     rw [List.getElem?_drop,List.getElem?_drop,Nat.add_zero,hx] at this
     rw [List.getD_eq_getElem?_getD,this]
     rfl
    obtain ⟨cs,hcl,hM,hcc,hfr⟩ := Kd.Egb HO.out xs[j] (j : Int) (by omega) hltz
    rw [Int.toNat_natCast,hy] at hM
    rw [Int.toNat_natCast,HZ.out.2.2] at hcc
    rw [HZ.out.2.2] at hcl
    obtain ⟨vj,rfl⟩ := List.length_eq_one_iff.1 hcl
    obtain ⟨ev,rfl⟩ : ∃ ev : Unit -> Value,ev () = vj := ⟨fun _ => vj,rfl⟩
    have l2 : wr.cell? ⟨gb,j,none⟩ = some (ev ()) := by
     have := hcc 0 (ev ()) rfl
     rwa [Nat.mul_one,Nat.add_zero] at this
    have hcall := HP.out wr xs[j] (ev ()) (f xs[j]) HG.out (List.getElem_mem hjx) (d.K_of_M hM) (HPF.out _ (List.getElem_mem hjx))
    have HST := Aside0.mk (Ekr (f := f) hx (by rw [HL.out,HN.out]) hij HD.out HT.out)
    have HMM := Aside0.mk hM
    clear hcc hfr hM hx hy hcl
    cases hq : f xs[j] with
    | false =>
     rw [hq] at hcall
     have hst : ∀ W,Below wr.heap.size wr W -> (∃ old,W.cell? ⟨gb,i,none⟩ = some old) ∧ W.frozen? ⟨gb,i,none⟩ = false := fun W hW => by
      obtain ⟨ci,hil,_,hic,hif⟩ := Kd.Egb (Kd.Ebj HO.out hW) xs[j] (i : Int) (by omega) (by omega)
      rw [Int.toNat_natCast,HZ.out.2.2] at hic hif
      rw [HZ.out.2.2] at hil
      obtain ⟨vi,rfl⟩ := List.length_eq_one_iff.1 hil
      have h5 := hic 0 vi rfl
      have h6 := hif 0
      rw [Nat.mul_one,Nat.add_zero] at h5 h6
      exact ⟨⟨vi,h5⟩,h6⟩
     have hO : OneCell ev := fun u => by cases u;exact d.K_one (d.K_of_M HMM.out) (ev ()) (List.mem_cons_self ..)
     have hcl0 := hO.cells
     simp only [Value.cells] at hcl0
     have hsv := hO.store P
     have HS := Aside0.mk hst
     have HQ := Aside0.mk hq
     clear hst hq
     go_wp2_with (go_at_fn g;refine hcall.mono ?_;rintro e w' ⟨rfl,hb'⟩;obtain ⟨⟨old,hs1⟩,hs2⟩ := HS.out w' hb')
     go_roundg (n - (j + 1))
     case measure => omega
     case rel =>
      have h3 := Kd.Ebj HO.out hb'
      obtain ⟨ci,hil,_,hic,_⟩ := Kd.Egb h3 xs[j] (i : Int) (by omega) (by omega)
      obtain ⟨h4,h5⟩ := Kd.Emv (seg := [ev ()]) (j := 0) (x' := xs[j]) (okp := fun k_ => ok k_ ∧ k_ ≠ gb) h3 (i : Int) (by omega) (by omega) hil hic (by rw [HZ.out.2.2];exact Nat.le_refl _) (by
       rw [List.take_zero,List.nil_append,List.drop_eq_nil_of_le (by rw [hil,HZ.out.2.2];exact Nat.le_refl _),List.append_nil]
       exact Kd.Eil HMM.out hb') (fun _ hk => hk)
      rw [Int.toNat_natCast,Nat.add_zero,HZ.out.2.2,Nat.mul_one] at h4 h5
      exact ⟨i + 1,j + 1,ys.set i xs[j],by go_num,by go_num,by omega,Nat.le_refl _,by omega,⟨h4⟩,⟨grownBy_trans (grownBy_trans HG.out (grownBy_below _ hb')) h5⟩,⟨by rw [List.length_set];exact HL.out⟩,⟨HST.out.2.2.2⟩,⟨HST.out.2.1 HQ.out⟩⟩
    | true =>
     rw [hq] at hcall
     have HQ := Aside0.mk hq
     clear hq
     go_wp2_with (go_at_fn g;refine hcall.mono ?_;rintro e w' ⟨rfl,hb'⟩)
     go_roundg (n - (j + 1))
     case measure => omega
     case rel => exact ⟨i,j + 1,ys,rfl,by go_num,by omega,Nat.le_refl _,by omega,⟨Kd.Ebj HO.out hb'⟩,⟨grownBy_trans HG.out (grownBy_below _ hb')⟩,HL,⟨HST.out.2.2.1⟩,⟨HST.out.1 HQ.out⟩⟩
   ·obtain rfl : j = n := by omega
    have hltz : ¬ (j : Int) < (j : Int) := by omega
    obtain ⟨zs,hzs⟩ : ∃ zs,zs = (Builtin.zeroCells z.cells (j - i)).toList := ⟨_,rfl⟩
    have hzl : zs.length = (j - i) * 1 := by rw [hzs];simp [Builtin.zeroCells,HZ.out.1]
    have hz1 : ∀ u ∈ zs,u.oneCell' = true := by
     intro u hu
     rw [hzs] at hu
     simp only [Builtin.zeroCells,Array.toList_map,List.mem_map,Array.toList_range,List.mem_range] at hu
     obtain ⟨q,hq,rfl⟩ := hu
     have hlt2 : q % z.cells.size < z.cells.size := Nat.mod_lt _ (by rw [HZ.out.1];omega)
     rw [getElem!_pos z.cells (q % z.cells.size) hlt2]
     exact HZ.out.2.1 _ (Array.getElem_mem hlt2)
    obtain ⟨cur,hcur,hcs⟩ : ∃ cur,wr.heap[gb]? = some (.cells cur e (0,0)) ∧ cur.size = cap * 1 := by
     rcases Ekq HO.out with ⟨_,h0⟩ | ⟨g',cap',hv2,_,_,_,⟨cur,hcur,hcs⟩,_⟩
     ·cases h0
     ·injection hv2 with ha _ hc
      injection ha with ha
      injection ha with ha
      subst ha;subst hc
      exact ⟨cur,hcur,by rw [hcs,HZ.out.2.2]⟩
    have hle : i * 1 + (j - i) * 1 <= cap * 1 := by rw [<- Nat.add_mul];exact Nat.mul_le_mul_right _ (by omega)
    have hcl : ∀ ty,(Builtin.clear_ #[ρ.t 22] ty #[.slice (some ⟨gb,i,none⟩) (j - i) (cap - i)]).run P wr = .ok (.tuple #[]) (wr.setCells gb i zs) := fun ty => by
     rw [hzs] at hzl hz1 ⊢
     exact Ekp wr _ _ ty z t22 vE gb i (j - i) (cap - i) (by omega) hz1 (fun q hq => by rw [cell_of_row wr gb _ cur e (0,0) hcur,Array.getElem?_eq_getElem (by omega)];rfl) (fun q hq => by simp [World.frozen?,hcur])
    have hlen : (ys.take i).length = i := by rw [List.length_take,HL.out];omega
    have hres : ys.take i = xs.filter fun x => !f x := by rw [HT.out,HN.out,List.take_length]
    have hfin := Elq (Eiy HO.out (show i <= j by omega)) i zs (by rw [HZ.out.2.2];omega) (by rw [HZ.out.2.2];omega)
    rw [hres] at hfin
    have HFN := Aside0.mk hfin
    clear hfin hres hlen hle hcur hcs hz1 hzl hzs
    go_wp2
    go_ret
    exact ⟨_,rfl,HFN.out.1,rfl,grownBy_trans HG.out HFN.out.2⟩
end Go.Proofs.YtgnijnlgbelifaaGreatW.GDel
