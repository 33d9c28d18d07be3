/- slices.IndexFunc and slices.ContainsFunc at a predicate that may lay blocks of its own,that is asked in order and may answer at some elements alone: over any program. -/
import Derived.Shelf.SlicesE.IndexFunc
import Derived.Shelf.SlicesQ.IndexFunc
import Derived.Test.YtkobnljfoedmnaaDoorWWords
set_option linter.unusedVariables false
set_option linter.unusedSimpArgs false
namespace Go.Proofs.YtkobnljfoedmnaaDoorW.GIdx
open Go Go.Proofs Go.Shelf Go.RowKit Go.Lib Go.Proofs.YtkobnljfoedmnaaDoorW.PrintWords
variable {P : Program} {ρ : Ren} {α : Type}
def idxO (p : α -> Option Bool) : List α -> Nat -> Option Int
 | [],_ => some (-1)
 | x :: l,i => (p x).bind fun b => if b = true then some (i : Int) else idxO p l (i + 1)
def anyO (p : α -> Option Bool) : List α -> Option Bool
 | [] => some false
 | x :: l => (p x).bind fun b => if b = true then some true else anyO p l
def allO (q : α -> Option Bool) (l : List α) : Option Bool := (anyO (fun x => (q x).map (!·)) l).map (!·)
theorem idxO_some {p : α -> Option Bool} {f : α -> Bool} : ∀ {l : List α} {i : Nat},(∀ x,x ∈ l -> p x = some (f x)) -> idxO p l i = some (match l.findIdx? f with | some j => ((i + j : Nat) : Int) | none => -1)
 | [],_,_ => rfl
 | x :: l,i,h => by
  unfold idxO
  rw [h x (List.mem_cons_self ..),List.findIdx?_cons]
  cases f x with
  | true => simp
  | false =>
   have := idxO_some (l := l) (i := i + 1) fun y hy => h y (List.mem_cons_of_mem _ hy)
   simp only [Option.bind_some,Bool.false_eq_true,if_false,this]
   cases List.findIdx? f l with
   | none => rfl
   | some j => simp only [Option.map_some];congr 2;omega
theorem C_spot {d : Kd α} {w : World} {A : Option Addr} {n : Nat} {xs : List α} (h : d.C w A n xs) (hn : 0 < n) (hs : 0 < d.sz) : ∃ b off,A = some ⟨b,off,none⟩ ∧ b < w.heap.size ∧ ∀ j x,xs[j]? = some x -> ∃ c,c.length = d.sz ∧ d.K w x c ∧ ∀ i u,c[i]? = some u -> w.cell? ⟨b,off + j * d.sz + i,none⟩ = some u := by
 obtain ⟨hl,_,h2⟩ := h
 obtain ⟨⟨b,off,sp⟩,rfl,hc⟩ := h2 hn
 have hpos : 0 < xs.length := by omega
 obtain ⟨c0,hl0,_,hc0⟩ := hc 0 _ (List.getElem?_eq_getElem hpos)
 have h00 : w.cell? ((⟨b,off,sp⟩ : Addr).add 0) = some c0[0] := by
  have := hc0 0 _ (List.getElem?_eq_getElem (by omega))
  simpa using this
 have e0 : (⟨b,off,sp⟩ : Addr).add 0 = ⟨b,off,sp⟩ := by simp [Addr.add]
 rw [e0] at h00
 have hsp : sp = none := World.cell?_spot h00
 subst hsp
 refine ⟨b,off,rfl,World.block_lt_of_cell? w _ h00,fun j x hx => ?_⟩
 obtain ⟨c,hl1,hK,hcc⟩ := hc j x hx
 refine ⟨c,hl1,hK,fun i u hu => ?_⟩
 have := hcc i u hu
 rw [Addr.add_lit,<- Nat.add_assoc] at this
 exact this
set_option maxHeartbeats 2000000 in
theorem idx_agg (L : SlLaysH0.n6 P ρ) (d : Kd α) (k : Nat) (h1 : d.sz = k) (h2 : 0 < k) (aE : ∀ w,(isAgg (ρ.t 23)).run P w = .ok true w) (zE : ∀ w,(Go.sizeOf (ρ.t 23)).run P w = .ok k w) (p : α -> Option Bool) (g : Nat) (lb : Array Value) (eg : ∀ args w,(callFunc g args).run P w = .ok (.enter g args) w)
  (A : Option Addr) (n c : Nat) (xs : List α) (w : World) (hn : xs.length = n) (hr : d.C w A n xs) (r : Int)
  (hp : ∀ (W : World) (x : α) (cs : List Value) (b : Bool),Below w.heap.size w W -> x ∈ xs -> d.K w x cs -> p x = some b -> Calls P g (#[.agg cs.toArray] ++ lb) W fun e w' => e = .returned (.bool b) ∧ Below w.heap.size w w')
  (h : idxO p xs 0 = some r) :
  Calls P (ρ.f 6) #[.slice A n c,.func (.func g) #[] lb] w fun e w' => e = .returned (.int .i64 r) ∧ Below w.heap.size w w' := by
 have mixed := L.mixed;have t0 := L.t0;have a0 := L.a0;have z0 := L.z0;have v0 := L.v0;have t3 := L.t3;have a3 := L.a3;have z3 := L.z3;have v3 := L.v3;have t4 := L.t4;have a4 := L.a4;have z4 := L.z4;have v4 := L.v4;have t22 := L.t22;have a22 := L.a22;have z22 := L.z22;have v22 := L.v22;have t25 := L.t25;have a25 := L.a25;have z25 := L.z25;have v25 := L.v25
 rcases Nat.eq_zero_or_pos n with h0 | h0
 ·subst h0
  obtain rfl : xs = [] := List.eq_nil_of_length_eq_zero hn
  obtain rfl := Option.some.inj h
  clear hp hr h
  obtain ⟨_,_,FG⟩ := L.f6
  go_enter FG,SlBodyH.n6_ntmps ρ
  go_wp2
  go_loopg [5,8] 0 (fun _ _ s8 wr => s8 = .int .i64 0 ∧ wr = w)
  case atStart => exact ⟨rfl,rfl⟩
  case round =>
   obtain ⟨rfl,rfl⟩ := hrel
   go_wp2
   go_ret
   exact ⟨rfl,Below.refl _ _⟩
 ·obtain ⟨b,off,rfl,hB,hcell⟩ := C_spot hr h0 (by omega)
  have hbig : n <= 9223372036854775807 := hr.2.1
  rw [h1] at hcell
  have HC : Aside0 (∀ (W : World),Below w.heap.size w W -> ∀ j x,xs[j]? = some x -> ∃ cs,d.K w x cs ∧ Sem.run P (loadCellsFrom ⟨b,off + j * k,none⟩ 0 k #[]) W = .ok cs.toArray W) := ⟨fun W hW j x hx => by
   obtain ⟨cs,hl,hK,hcc⟩ := hcell j x hx
   exact ⟨cs,hK,run_loadCellsFrom_list P _ _ cs k hl (fun i v hi => by
    rw [Addr.add_lit,hW.cell (p := ⟨b,off + j * k + i,none⟩) hB]
    exact hcc i v hi)⟩⟩
  have HP := Aside0.mk hp
  have HN := Aside0.mk hn
  have H := Aside0.mk h
  clear hp hcell hr h hn
  obtain ⟨_,_,FG⟩ := L.f6
  go_enter FG,SlBodyH.n6_ntmps ρ
  go_wp2
  go_loopg [5,8] n (fun gg _ s8 wr => ∃ kk : Nat,kk <= n ∧ n - kk <= gg ∧ s8 = .int .i64 kk ∧ Aside0 (Below w.heap.size w wr) ∧ Aside0 (idxO p (xs.drop kk) kk = some r))
  case atStart => exact ⟨0,Nat.zero_le _,by omega,rfl,⟨Below.refl _ w⟩,⟨H.out⟩⟩
  case round =>
   obtain ⟨kk,hkk,hg,rfl,BW,A⟩ := hrel
   by_cases hlt : kk < n
   ·have hltz : (kk : Int) < (n : Int) := by omega
    have hx : kk < xs.length := by rw [HN.out];exact hlt
    obtain ⟨cs,hK,l2⟩ := HC.out wr BW.out kk _ (List.getElem?_eq_getElem hx)
    have hA : idxO p (xs[kk] :: xs.drop (kk + 1)) kk = some r := by rw [<- List.drop_eq_getElem_cons hx];exact A.out
    unfold idxO at hA
    cases hq : p xs[kk] with
    | none => rw [hq] at hA;cases hA
    | some bb =>
     rw [hq] at hA
     have hcall := HP.out wr xs[kk] cs bb BW.out (List.getElem_mem hx) hK hq
     clear hq hK
     cases bb with
     | true =>
      obtain rfl := Option.some.inj hA
      clear hx
      go_wp2_with (go_at_fn g;refine hcall.mono ?_;rintro e w' ⟨rfl,hb'⟩)
      go_ret
      exact ⟨rfl,hb'⟩
     | false =>
      have A2 : Aside0 (idxO p (xs.drop (kk + 1)) (kk + 1) = some r) := ⟨hA⟩
      clear hA hx A
      go_wp2_with (go_at_fn g;refine hcall.mono ?_;rintro e w' ⟨rfl,hb'⟩)
      go_roundg (n - (kk + 1))
      case measure => omega
      case rel => exact ⟨kk + 1,by omega,by omega,by go_num,⟨hb'⟩,A2⟩
   ·have hltz : ¬ (kk : Int) < (n : Int) := by omega
    have : kk = n := by omega
    subst this
    go_wp2
    go_ret
    have hA := A.out
    rw [<- HN.out,List.drop_length] at hA
    obtain rfl := Option.some.inj hA
    exact ⟨rfl,BW.out⟩
end Go.Proofs.YtkobnljfoedmnaaDoorW.GIdx
