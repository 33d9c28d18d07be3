import Derived.Shelf.SlicesE.IndexFunc
import Derived.Shelf.SlicesQ.IndexFunc
import Derived.Test.YtgnijnlgbelifaaGreatWWords
set_option linter.unusedVariables false
set_option linter.unusedSimpArgs false
namespace Go.Proofs.YtgnijnlgbelifaaGreat.W.GIdx
open Go Proofs Shelf RowKit Lib W.PrintWords
variable {P : Program} {ρ : Ren} {α : Type}
def idxO (p : α -> Option Bool) : List α -> Nat -> Option Int
 | [],_ => some (-1)
 | x :: l,i => (p x).bind fun b => if b = true then some (i : Int) else idxO p l (i + 1)
def anyO (p : α -> Option Bool) : List α -> Option Bool
 | [] => some false
 | x :: l => (p x).bind fun b => if b = true then some true else anyO p l
def allO (q : α -> Option Bool) (l : List α) : Option Bool := (anyO (fun x => (q x).map (!·)) l).map (!·)
theorem Eer {p : α -> Option Bool} : ∀ {l : List α} {i : Nat} {b : Bool},anyO p l = some b -> ∃ r : Int,idxO p l i = some r ∧ decide (0 <= r) = b
 | [],i,b,h => by
  obtain rfl := Option.some.inj h
  exact ⟨-1,rfl,rfl⟩
 | x :: l,i,b,h => by
  unfold anyO at h
  unfold idxO
  cases hx : p x with
  | none => rw [hx] at h;cases h
  | some c =>
   rw [hx] at h
   cases c with
   | true =>
    obtain rfl := Option.some.inj h
    exact ⟨(i : Int),rfl,decide_eq_true (by omega)⟩
   | false => exact Eer (l := l) (i := i + 1) h
theorem Ehy {p : α -> Option Bool} {f : α -> Bool} : ∀ {l : List α},(∀ x,x ∈ l -> p x = some (f x)) -> anyO p l = some (l.any f)
 | [],_ => rfl
 | x :: l,h => by
  unfold anyO
  rw [h x (List.mem_cons_self ..),List.any_cons]
  cases f x with
  | true => rfl
  | false => exact Ehy fun y hy => h y (List.mem_cons_of_mem _ hy)
theorem Eme {d : Kd α} {w : World} {A : Option Addr} {n : Nat} {xs : List α} (h : d.C w A n xs) (hn : 0 < n) (hs : 0 < d.sz) : ∃ b off,A = some ⟨b,off,none⟩ ∧ b < w.heap.size ∧ ∀ j x,xs[j]? = some x -> ∃ c,c.length = d.sz ∧ d.K w x c ∧ ∀ i u,c[i]? = some u -> w.cell? ⟨b,off + j * d.sz + i,none⟩ = some u := by
 obtain ⟨hl,_,h2⟩ := h
 obtain ⟨⟨b,off,sp⟩,rfl,hc⟩ := h2 hn
 have hpos : 0 < xs.length := by omega
 obtain ⟨c0,hl0,_,hc0⟩ := hc 0 _ (List.getElem?_eq_getElem hpos)
 have h00 : w.cell? ((⟨b,off,sp⟩ : Addr).add 0) = some c0[0] := by
  have := hc0 0 _ (List.getElem?_eq_getElem (by omega))
  simpa using this
 have e0 : (⟨b,off,sp⟩ : Addr).add 0 = ⟨b,off,sp⟩ := by simp [Addr.add]
 rw [e0] at h00
 have hsp : sp = none := World.cell?_spot h00
 subst hsp
 refine ⟨b,off,rfl,World.block_lt_of_cell? w _ h00,fun j x hx => ?_⟩
 obtain ⟨c,hl1,hK,hcc⟩ := hc j x hx
 refine ⟨c,hl1,hK,fun i u hu => ?_⟩
 have := hcc i u hu
 rw [Addr.add_lit,<- Nat.add_assoc] at this
 exact this
set_option maxHeartbeats 2000000 in
theorem Enb (L : SlLaysH.n6 P ρ) (d : Kd α) (h1 : d.sz = 1) (p : α -> Option Bool) (g : Nat) (lb : Array Value) (eg : ∀ args w,(callFunc g args).run P w = .ok (.enter g args) w)
  (A : Option Addr) (n c : Nat) (xs : List α) (w : World) (hn : xs.length = n) (hr : d.C w A n xs) (r : Int)
  (hp : ∀ (W : World) (x : α) (v : Value) (b : Bool),Below w.heap.size w W -> x ∈ xs -> d.K w x [v] -> p x = some b -> Calls P g (#[v] ++ lb) W fun e w' => e = .returned (.bool b) ∧ Below w.heap.size w w')
  (h : idxO p xs 0 = some r) :
  Calls P (ρ.f 6) #[.slice A n c,.func (.func g) #[] lb] w fun e w' => e = .returned (.int .i64 r) ∧ Below w.heap.size w w' := by
 rcases Nat.eq_zero_or_pos n with h0 | h0
 ·subst h0
  obtain rfl : xs = [] := List.eq_nil_of_length_eq_zero hn
  obtain rfl := Option.some.inj h
  refine (AnyE.slices_IndexFunc_empty L A c _ w).mono ?_
  rintro e w' ⟨rfl,rfl⟩
  exact ⟨rfl,Below.refl _ _⟩
 ·obtain ⟨b,off,rfl,hB,hcell⟩ := Eme hr h0 (by omega)
  have hbig : n <= 9223372036854775807 := hr.2.1
  have HC : Aside0 (∀ j x,xs[j]? = some x -> ∃ v,d.K w x [v] ∧ w.cell? ⟨b,off + j,none⟩ = some v) := ⟨fun j x hx => by
   obtain ⟨cs,hl,hK,hcc⟩ := hcell j x hx
   rw [h1] at hl
   obtain ⟨v,rfl⟩ := List.length_eq_one_iff.1 hl
   refine ⟨v,hK,?_⟩
   have := hcc 0 v rfl
   rwa [h1,Nat.mul_one,Nat.add_zero] at this⟩
  have HP := Aside0.mk hp
  have HN := Aside0.mk hn
  have H := Aside0.mk h
  clear hp hcell hr h hn
  have mixed := L.mixed;have t0 := L.t0;have a0 := L.a0;have z0 := L.z0;have v0 := L.v0;have t3 := L.t3;have a3 := L.a3;have z3 := L.z3;have v3 := L.v3;have t4 := L.t4;have a4 := L.a4;have z4 := L.z4;have v4 := L.v4;have t22 := L.t22;have a22 := L.a22;have z22 := L.z22;have v22 := L.v22;have a23 := L.a23;have z23 := L.z23;have t25 := L.t25;have a25 := L.a25;have z25 := L.z25;have v25 := L.v25
  obtain ⟨_,_,FG⟩ := L.f6
  go_enter FG,SlBodyH.n6_ntmps ρ
  go_wp2
  go_loopg [5,8] n (fun gg _ s8 wr => ∃ kk : Nat,kk <= n ∧ n - kk <= gg ∧ s8 = .int .i64 kk ∧ Aside0 (Below w.heap.size w wr) ∧ Aside0 (idxO p (xs.drop kk) kk = some r))
  case atStart => exact ⟨0,Nat.zero_le _,by omega,rfl,⟨Below.refl _ w⟩,⟨H.out⟩⟩
  case round =>
   obtain ⟨kk,hkk,hg,rfl,BW,A⟩ := hrel
   by_cases hlt : kk < n
   ·have hltz : (kk : Int) < (n : Int) := by omega
    have hx : kk < xs.length := by rw [HN.out];exact hlt
    obtain ⟨v,hK,hv⟩ := HC.out kk _ (List.getElem?_eq_getElem hx)
    have hv2 : wr.cell? ⟨b,off + kk,none⟩ = some v := (BW.out.cell (p := ⟨b,off + kk,none⟩) hB).trans hv
    clear hv
    have hA : idxO p (xs[kk] :: xs.drop (kk + 1)) kk = some r := by rw [<- List.drop_eq_getElem_cons hx];exact A.out
    unfold idxO at hA
    cases hq : p xs[kk] with
    | none => rw [hq] at hA;cases hA
    | some bb =>
     rw [hq] at hA
     have hcall := HP.out wr xs[kk] v bb BW.out (List.getElem_mem hx) hK hq
     clear hq hK
     cases bb with
     | true =>
      obtain rfl := Option.some.inj hA
      clear hx
      go_wp2_with (go_at_fn g;refine hcall.mono ?_;rintro e w' ⟨rfl,hb'⟩)
      go_ret
      exact ⟨rfl,hb'⟩
     | false =>
      have A2 : Aside0 (idxO p (xs.drop (kk + 1)) (kk + 1) = some r) := ⟨hA⟩
      clear hA hx A
      go_wp2_with (go_at_fn g;refine hcall.mono ?_;rintro e w' ⟨rfl,hb'⟩)
      go_roundg (n - (kk + 1))
      case measure => omega
      case rel => exact ⟨kk + 1,by omega,by omega,by go_num,⟨hb'⟩,A2⟩
   ·have hltz : ¬ (kk : Int) < (n : Int) := by omega
    have : kk = n := by omega
    subst this
    go_wp2
    go_ret
    have hA := A.out
    rw [<- HN.out,List.drop_length] at hA
    obtain rfl := Option.some.inj hA
    exact ⟨rfl,BW.out⟩
set_option maxHeartbeats 2000000 in
theorem Enc (L : SlLaysH0.n6 P ρ) (d : Kd α) (k : Nat) (h1 : d.sz = k) (h2 : 0 < k) (aE : ∀ w,(isAgg (ρ.t 23)).run P w = .ok true w) (zE : ∀ w,(Go.sizeOf (ρ.t 23)).run P w = .ok k w) (p : α -> Option Bool) (g : Nat) (lb : Array Value) (eg : ∀ args w,(callFunc g args).run P w = .ok (.enter g args) w)
  (A : Option Addr) (n c : Nat) (xs : List α) (w : World) (hn : xs.length = n) (hr : d.C w A n xs) (r : Int)
  (hp : ∀ (W : World) (x : α) (cs : List Value) (b : Bool),Below w.heap.size w W -> x ∈ xs -> d.K w x cs -> p x = some b -> Calls P g (#[.agg cs.toArray] ++ lb) W fun e w' => e = .returned (.bool b) ∧ Below w.heap.size w w')
  (h : idxO p xs 0 = some r) :
  Calls P (ρ.f 6) #[.slice A n c,.func (.func g) #[] lb] w fun e w' => e = .returned (.int .i64 r) ∧ Below w.heap.size w w' := by
 have mixed := L.mixed;have t0 := L.t0;have a0 := L.a0;have z0 := L.z0;have v0 := L.v0;have t3 := L.t3;have a3 := L.a3;have z3 := L.z3;have v3 := L.v3;have t4 := L.t4;have a4 := L.a4;have z4 := L.z4;have v4 := L.v4;have t22 := L.t22;have a22 := L.a22;have z22 := L.z22;have v22 := L.v22;have t25 := L.t25;have a25 := L.a25;have z25 := L.z25;have v25 := L.v25
 rcases Nat.eq_zero_or_pos n with h0 | h0
 ·subst h0
  obtain rfl : xs = [] := List.eq_nil_of_length_eq_zero hn
  obtain rfl := Option.some.inj h
  clear hp hr h
  obtain ⟨_,_,FG⟩ := L.f6
  go_enter FG,SlBodyH.n6_ntmps ρ
  go_wp2
  go_loopg [5,8] 0 (fun _ _ s8 wr => s8 = .int .i64 0 ∧ wr = w)
  case atStart => exact ⟨rfl,rfl⟩
  case round =>
   obtain ⟨rfl,rfl⟩ := hrel
   go_wp2
   go_ret
   exact ⟨rfl,Below.refl _ _⟩
 ·obtain ⟨b,off,rfl,hB,hcell⟩ := Eme hr h0 (by omega)
  have hbig : n <= 9223372036854775807 := hr.2.1
  rw [h1] at hcell
  have HC : Aside0 (∀ (W : World),Below w.heap.size w W -> ∀ j x,xs[j]? = some x -> ∃ cs,d.K w x cs ∧ Sem.run P (loadCellsFrom ⟨b,off + j * k,none⟩ 0 k #[]) W = .ok cs.toArray W) := ⟨fun W hW j x hx => by
   obtain ⟨cs,hl,hK,hcc⟩ := hcell j x hx
   exact ⟨cs,hK,run_loadCellsFrom_list P _ _ cs k hl (fun i v hi => by
    rw [Addr.add_lit,hW.cell (p := ⟨b,off + j * k + i,none⟩) hB]
    exact hcc i v hi)⟩⟩
  have HP := Aside0.mk hp
  have HN := Aside0.mk hn
  have H := Aside0.mk h
  clear hp hcell hr h hn
  obtain ⟨_,_,FG⟩ := L.f6
  go_enter FG,SlBodyH.n6_ntmps ρ
  go_wp2
  go_loopg [5,8] n (fun gg _ s8 wr => ∃ kk : Nat,kk <= n ∧ n - kk <= gg ∧ s8 = .int .i64 kk ∧ Aside0 (Below w.heap.size w wr) ∧ Aside0 (idxO p (xs.drop kk) kk = some r))
  case atStart => exact ⟨0,Nat.zero_le _,by omega,rfl,⟨Below.refl _ w⟩,⟨H.out⟩⟩
  case round =>
   obtain ⟨kk,hkk,hg,rfl,BW,A⟩ := hrel
   by_cases hlt : kk < n
   ·have hltz : (kk : Int) < (n : Int) := by omega
    have hx : kk < xs.length := by rw [HN.out];exact hlt
    obtain ⟨cs,hK,l2⟩ := HC.out wr BW.out kk _ (List.getElem?_eq_getElem hx)
    have hA : idxO p (xs[kk] :: xs.drop (kk + 1)) kk = some r := by rw [<- List.drop_eq_getElem_cons hx];exact A.out
    unfold idxO at hA
    cases hq : p xs[kk] with
    | none => rw [hq] at hA;cases hA
    | some bb =>
     rw [hq] at hA
     have hcall := HP.out wr xs[kk] cs bb BW.out (List.getElem_mem hx) hK hq
     clear hq hK
     cases bb with
     | true =>
      obtain rfl := Option.some.inj hA
      clear hx
      go_wp2_with (go_at_fn g;refine hcall.mono ?_;rintro e w' ⟨rfl,hb'⟩)
      go_ret
      exact ⟨rfl,hb'⟩
     | false =>
      have A2 : Aside0 (idxO p (xs.drop (kk + 1)) (kk + 1) = some r) := ⟨hA⟩
      clear hA hx A
      go_wp2_with (go_at_fn g;refine hcall.mono ?_;rintro e w' ⟨rfl,hb'⟩)
      go_roundg (n - (kk + 1))
      case measure => omega
      case rel => exact ⟨kk + 1,by omega,by omega,by go_num,⟨hb'⟩,A2⟩
   ·have hltz : ¬ (kk : Int) < (n : Int) := by omega
    have : kk = n := by omega
    subst this
    go_wp2
    go_ret
    have hA := A.out
    rw [<- HN.out,List.drop_length] at hA
    obtain rfl := Option.some.inj hA
    exact ⟨rfl,BW.out⟩
set_option maxHeartbeats 1000000 in
theorem Ekm (L : SlLaysH.n8 P ρ) (d : Kd α) (h1 : d.sz = 1) (p : α -> Option Bool) (g : Nat) (lb : Array Value) (eg : ∀ args w,(callFunc g args).run P w = .ok (.enter g args) w)
  (A : Option Addr) (n c : Nat) (xs : List α) (w : World) (hn : xs.length = n) (hr : d.C w A n xs) (r : Bool)
  (hp : ∀ (W : World) (x : α) (v : Value) (b : Bool),Below w.heap.size w W -> x ∈ xs -> d.K w x [v] -> p x = some b -> Calls P g (#[v] ++ lb) W fun e w' => e = .returned (.bool b) ∧ Below w.heap.size w w')
  (h : anyO p xs = some r) :
  Calls P (ρ.f 8) #[.slice A n c,.func (.func g) #[] lb] w fun e w' => e = .returned (.bool r) ∧ Below w.heap.size w w' := by
 obtain ⟨i,hi,rfl⟩ := Eer (i := 0) h
 have hcon := Aside0.mk (Enb (P := P) (ρ := ρ) { L with } d h1 p g lb eg A n c xs w hn hr i hp hi)
 clear hp hr h hi
 have mixed := L.mixed;have t0 := L.t0;have a0 := L.a0;have z0 := L.z0;have v0 := L.v0;have t3 := L.t3;have a3 := L.a3;have z3 := L.z3;have v3 := L.v3;have t4 := L.t4;have a4 := L.a4;have z4 := L.z4;have v4 := L.v4;have t22 := L.t22;have a22 := L.a22;have z22 := L.z22;have v22 := L.v22;have a23 := L.a23;have z23 := L.z23;have t25 := L.t25;have a25 := L.a25;have z25 := L.z25;have v25 := L.v25
 have e6 : ∀ args w,(callFunc (ρ.f 6) args).run P w = .ok (.enter (ρ.f 6) args) w := L.f6.enters rfl
 obtain ⟨_,_,FG⟩ := L.f8
 go_enter FG,SlBodyH.n8_ntmps ρ
 go_wp2_with (go_at_fn (ρ.f 6);refine hcon.out.mono ?_;rintro e w' ⟨rfl,hb'⟩)
 go_ret
 exact ⟨rfl,hb'⟩
set_option maxHeartbeats 1000000 in
theorem Ein (L : SlLaysH0.n8 P ρ) (d : Kd α) (k : Nat) (h1 : d.sz = k) (h2 : 0 < k) (aE : ∀ w,(isAgg (ρ.t 23)).run P w = .ok true w) (zE : ∀ w,(Go.sizeOf (ρ.t 23)).run P w = .ok k w) (p : α -> Option Bool) (g : Nat) (lb : Array Value) (eg : ∀ args w,(callFunc g args).run P w = .ok (.enter g args) w)
  (A : Option Addr) (n c : Nat) (xs : List α) (w : World) (hn : xs.length = n) (hr : d.C w A n xs) (r : Bool)
  (hp : ∀ (W : World) (x : α) (cs : List Value) (b : Bool),Below w.heap.size w W -> x ∈ xs -> d.K w x cs -> p x = some b -> Calls P g (#[.agg cs.toArray] ++ lb) W fun e w' => e = .returned (.bool b) ∧ Below w.heap.size w w')
  (h : anyO p xs = some r) :
  Calls P (ρ.f 8) #[.slice A n c,.func (.func g) #[] lb] w fun e w' => e = .returned (.bool r) ∧ Below w.heap.size w w' := by
 obtain ⟨i,hi,rfl⟩ := Eer (i := 0) h
 have hcon := Aside0.mk (Enc (P := P) (ρ := ρ) { L with } d k h1 h2 aE zE p g lb eg A n c xs w hn hr i hp hi)
 clear hp hr h hi
 have mixed := L.mixed;have t0 := L.t0;have a0 := L.a0;have z0 := L.z0;have v0 := L.v0;have t3 := L.t3;have a3 := L.a3;have z3 := L.z3;have v3 := L.v3;have t4 := L.t4;have a4 := L.a4;have z4 := L.z4;have v4 := L.v4;have t22 := L.t22;have a22 := L.a22;have z22 := L.z22;have v22 := L.v22;have t25 := L.t25;have a25 := L.a25;have z25 := L.z25;have v25 := L.v25
 have e6 : ∀ args w,(callFunc (ρ.f 6) args).run P w = .ok (.enter (ρ.f 6) args) w := L.f6.enters rfl
 obtain ⟨_,_,FG⟩ := L.f8
 go_enter FG,SlBodyH.n8_ntmps ρ
 go_wp2_with (go_at_fn (ρ.f 6);refine hcon.out.mono ?_;rintro e w' ⟨rfl,hb'⟩)
 go_ret
 exact ⟨rfl,hb'⟩
end Go.Proofs.YtgnijnlgbelifaaGreat.W.GIdx
