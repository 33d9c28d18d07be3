import Derived.Test.YtgnijnlgbelifaaGreatWTab
set_option linter.unusedVariables false
namespace Go.Proofs.YtgnijnlgbelifaaGreat.W.GCall
open RowKit W.PrintLast
variable {P : Program} {ops : Array Oper} {Q : Exit -> Act -> World -> Prop}
theorem Enn {rest : List Oper} {oi : Oper} {a : Act} {w : World} (N : Option Tmp) {f : FuncId} {fn : Func} {as : Array Operand} {ts : Array TypeId} (hf : P.funcs[f]? = some fn) (args : Array Value)
  (h : Calls P f args w fun e w' => ∃ v,e = .returned v ∧ wpList P ops Q rest (a.put N v) w')
  (hd : oi.dst = N := by rfl) (hg : oi.guard = none := by rfl) (hname : (fn.name == "runtime.NumGoroutine") = false := by kernel_rfl) (hb : fn.body.isSome = true := by rfl)
  (hop : oi.op = .call { callee := .value (.func f),args := as,argTypes := ts } := by rfl)
  (hargs : as.map a.eval = args := by (try simp only [List.map_toArray,List.map_cons,List.map_nil]);first|done | rfl | (simp only [List.length_drop,List.length_take];rfl)) : wpList P ops Q (oi :: rest) a w :=
 Ed N hd hg hf hname hb args hop hargs h
end Go.Proofs.YtgnijnlgbelifaaGreat.W.GCall
namespace Go.Proofs.YtgnijnlgbelifaaGreat.W.GCall
abbrev Y : Bool := true
abbrev X : Bool := false
end Go.Proofs.YtgnijnlgbelifaaGreat.W.GCall
namespace Go.Proofs.YtgnijnlgbelifaaGreat.W.GCall
open RowKit W.PrintWords
theorem zkA {α : Type} {d : Kd α} {e : Nat} {w : World} {base : Nat} {ok : Nat -> Prop} {v : Value} {xs : List α} (h : d.R e w base ok v xs) (o : Obj) : d.R e (w.alloc o) base ok v xs := Kd.Eku h o
theorem zkB {α : Type} {d : Kd α} {e : Nat} {w : World} {base : Nat} {ok : Nat -> Prop} {v : Value} {xs : List α} (h : d.R e w base ok v xs) (m : Nat) : d.R e (w.drewN m) base ok v xs := Kd.Ekv h m
theorem zkC {α : Type} {d : Kd α} {e : Nat} {w : World} {base : Nat} {ok : Nat -> Prop} {v : Value} {xs : List α} (h : d.R e w base ok v xs) : d.R e w.drew base ok v xs := Kd.Edc h
theorem zbA {w W : World} (h : Below w.heap.size w W) (o : Obj) : Below w.heap.size w (W.alloc o) := Eav h o
theorem zbB {B : Nat} {w W : World} (h : Below B w W) (n : Nat) : Below B w (W.drewN n) := Ebg h n
theorem zbC {B : Nat} {w W : World} (h : Below B w W) : Below B w W.drew := Eaf h
theorem zeA {w w1 : World} {g : Nat} {row : Option Nat} (h : Eaa w w1 g row) (j : Nat) (u : Value) : Eaa w (w1.setCell ⟨g,j,none⟩ u) g row := Eaa.set_ h j u
theorem zeB {w W : World} {g : Nat} {row : Option Nat} (h : Eaa w W g row) (m : Nat) : Eaa w (W.drewN m) g row := Ejk h m
theorem zeC {w W : World} {g : Nat} {row : Option Nat} (h : Eaa w W g row) : Eaa w W.drew g row := Ecl h
theorem zeD {w W : World} {g : Nat} (h : Eaa w W g none) (o : Obj) : Eaa w (W.alloc o) g none := Ejl h o
theorem zhA {w : World} {g : Nat} {o : Obj} (h : w.heap[g]? = some o) (n : Nat) : (w.drewN n).heap[g]? = some o := h
theorem zhB {w : World} {g : Nat} {o : Obj} (h : w.heap[g]? = some o) : w.drew.heap[g]? = some o := h
theorem zhC {w : World} {g : Nat} {o : Obj} (h : w.heap[g]? = some o) (o' : Obj) : (w.alloc o').heap[g]? = some o := Edu h o'
end Go.Proofs.YtgnijnlgbelifaaGreat.W.GCall
namespace Go.Proofs.YtgnijnlgbelifaaGreat.W.GCall
open RowKit W.PrintWords W.PrintLast
section
variable {P : Program} {ops : Array Oper} {Q : Exit -> Act -> World -> Prop} {md : Region.Mode} {S : World -> Prop} {ds : List Nat} {T : Bool × List (List Nat × List Nat)} {B : List Nat}
theorem ZO (i : Nat) (N : Tmp) {oi : Oper} {fuel : Nat} {l : Array Bool} {a : Act} {w : World} (l' : Array Bool) (hi : ops[i]? = some oi) (hN : oi.dst = some N) (hT : Aside0 (rtab md ops = T))
 (h : ∀ K : Act -> World -> Prop,Shut (∀ a' w',S w' -> (S w' -> Eaq P md ops Q S ds fuel l' a' w') -> K a' w') -> if Region.wanted oi (yielded ops a.tmps) = true then Oper.wp P oi a w K Q else K (a.put (some N) undef) w)
 (hc : (Efy T.2 l.toList == [i] && l.toList.set i true == l'.toList) = true := by kernel_rfl) (hd : i ∉ ds := by decide) : Eaq P md ops Q S ds (fuel + 1) l a w :=
 one_ l' hi hN (Eds hT.out hc) hd h
end
theorem zuA {α : Type} {l : List α} {i : Nat} {a : α} : l.toArray.setIfInBounds i a = (l.set i a).toArray := List.setIfInBounds_toArray ..
theorem zuB {α : Type} {x y : α} {l : List α} : (x :: l).set 0 y = y :: l := List.set_cons_zero
theorem zuC {α : Type} {x y : α} {l : List α} {i : Nat} : (x :: l).set (i + 1) y = x :: l.set i y := List.set_cons_succ
theorem ZQ {n : Nat} {w W W0 : World} (h : Aside0 (Below n w W0)) (e : Below n w W0 -> Below n w W := by intro h_;repeat (first|(with_reducible first|exact h_ | apply zbA | apply zbB | apply zbC | refine Ebv ?_ (Aside0.out (by assumption))) | exact h_)) : Below n w W := e h.out
theorem ZH {w W0 : World} {g : Nat} {o : Obj} (h : Aside0 (W0.heap[g]? = some o)) (e : W0.heap[g]? = some o -> w.heap[g]? = some o := by intro h_;(with_reducible repeat (first|apply zhA | apply zhB | apply zhC));exact h_) : w.heap[g]? = some o := e h.out
theorem ZK {α : Type} {d : Kd α} {e : Nat} {w W0 : World} {base : Nat} {ok : Nat -> Prop} {v : Value} {xs : List α} (h : Aside0 (d.R e W0 base ok v xs)) (e' : d.R e W0 base ok v xs -> d.R e w base ok v xs := by intro h_;(with_reducible repeat (first|apply zkA | apply zkB | apply zkC));exact h_) : d.R e w base ok v xs := e' h.out
theorem ZX {w W W0 : World} {a : Addr} {v : Value} (h : Aside0 (Below w.heap.size w W0)) (hx : w.cell? a = some v) (e : Below w.heap.size w W0 -> Below w.heap.size w W := by intro h_;repeat (first|(with_reducible first|exact h_ | apply zbA | apply zbB | apply zbC | refine Ebv ?_ (Aside0.out (by assumption))) | exact h_)) : W.cell? a = some v := ((e h.out).cell (World.block_lt_of_cell? w _ hx)).trans hx
theorem ZC {w : World} {g : Nat} {t : TypeId} {cs : Array Value} {v : Value} (h : Aside0 (w.heap[g]? = some (.cells cs t (0,0)))) (i : Nat) (e : cs[i]? = some v) : w.cell? ⟨g,i,none⟩ = some v := (Ebo h.out i).trans e
theorem ZF {W : World} {g j : Nat} {a : Addr} {u v : Value} (h : a.block ≠ g) (e : W.cell? a = some v) : (W.setCell ⟨g,j,none⟩ u).cell? a = some v := (cell_far (p := ⟨g,j,none⟩) h u).trans e
theorem ZR {α : Type} {d : Kd α} {w W0 : World} {A : Option Addr} {n : Nat} {xs : List α} (h : d.C W0 A n xs) (e : d.C W0 A n xs -> d.C w A n xs := by intro h_;repeat (first|exact h_ | (with_reducible refine Kd.Ecf ?_ _)|(with_reducible refine Kd.Ecg ?_ _)|(with_reducible refine Kd.Ecy ?_))) : d.C w A n xs := e h
theorem ZE {P : Program} {ops : Array Oper} {Q : Exit -> Act -> World -> Prop} {o : Oper} {rest : List Oper} {a : Act} {W : World} (N : Tmp) (cs : Array Value) (t : TypeId)
 (h : ∀ g,g = W.heap.size -> ∀ w1,w1.heap[g]? = some (.cells cs t (0,0)) -> Below W.heap.size W w1 -> wpList P ops Q rest (a.put o.dst (.pointer (some ⟨g,0,none⟩))) w1)
 (hd : o.dst = some N := by rfl) (hg : o.guard = none := by rfl)
 (hr : (execOp a.eval o).run P W = .ok (.value (.pointer (some ⟨W.heap.size,0,none⟩))) (W.alloc (.cells cs t (0,0))) := by first|(go_simp;done)|(go_simp;rfl)) : wpList P ops Q (o :: rest) a W :=
 El hg hd hr h
end Go.Proofs.YtgnijnlgbelifaaGreat.W.GCall
namespace Go.Proofs.YtgnijnlgbelifaaGreat.W.GCall
open RowKit W.PrintWords W.PrintLast
theorem ZD {p : Prop} [Decidable p] (h : decide p = true := by assumption) : p := of_decide_eq_true h
theorem ZW {w W0 w1 : World} {g : Nat} {r : Option Nat} (h : Aside0 (Eaa w W0 g r)) (e : Eaa w W0 g r -> Eaa w w1 g r := by intro h_;repeat (first|(with_reducible first|exact h_ | apply zeA | apply zeB | apply zeC | apply zeD | refine Ejc ?_ (Aside0.out (by assumption)) _) | exact h_)) : Eaa w w1 g r := e h.out
section
variable {P : Program} {ops : Array Oper} {Q : Exit -> Act -> World -> Prop} {md : Region.Mode} {S : World -> Prop} {ds : List Nat} {T : Bool × List (List Nat × List Nat)} {B : List Nat}
theorem YP (i : Nat) (N : Tmp) {oi : Oper} {v : Value} {fuel : Nat} {l : Array Bool} {a a' : Act} {w : World} (l' : Array Bool) (hi : ops[i]? = some oi) (hN : oi.dst = some N) (hT : Aside0 (rtab md ops = T)) (h : Eaq P md ops Q S ds fuel l' a' w)
 (hy : ∀ w,(execOp a.eval oi).run P w = .ok (.value v) w := by intro w';go_simp;with_reducible rfl) (ha : a.put (some N) v = a' := by simp only [Act.put,List.setIfInBounds_toArray,List.set_cons_zero,List.set_cons_succ,Eay,Eba];rfl)
 (hc : anyT T l.toList l'.toList i = true := by kernel_rfl) (hw : Region.wanted oi (yielded ops a.tmps) = true := by rfl)
 (hQ : ∀ c a w,Q (.panic c) (a.put oi.dst v) w -> Q (.panic c) a w := by exact fun _ _ _ h => h) : Eaq P md ops Q S ds (fuel + 1) l a w :=
 Ecp l' hi hN (Ely hT.out hc) hQ (Or.inl ⟨hw,hy⟩) ha h
theorem YU (i : Nat) (N : Tmp) {oi : Oper} {fuel : Nat} {l : Array Bool} {a a' : Act} {w : World} (l' : Array Bool) (hi : ops[i]? = some oi) (hN : oi.dst = some N) (hT : Aside0 (rtab md ops = T)) (h : Eaq P md ops Q S ds fuel l' a' w)
 (ha : a.put (some N) undef = a' := by simp only [Act.put,List.setIfInBounds_toArray,List.set_cons_zero,List.set_cons_succ,Eay,Eba];rfl)
 (hc : anyT T l.toList l'.toList i = true := by kernel_rfl) (hw : Region.wanted oi (yielded ops a.tmps) = false := by rfl)
 (hQ : ∀ c a w,Q (.panic c) (a.put oi.dst undef) w -> Q (.panic c) a w := by exact fun _ _ _ h => h) : Eaq P md ops Q S ds (fuel + 1) l a w :=
 Ecp l' hi hN (Ely hT.out hc) hQ (Or.inr ⟨hw,rfl⟩) ha h
theorem YT (i : Nat) (N : Tmp) {oi : Oper} {v : Value} {fuel : Nat} {l : Array Bool} {a a' : Act} {w : World} (l' : Array Bool) (hi : ops[i]? = some oi) (hN : oi.dst = some N) (hT : Aside0 (rtab md ops = T)) (hB : Aside0 (Ecc T.2 B = true)) (hS : S w) (h : Eaq P md ops Q S ds fuel l' a' w)
 (hy : ∀ w,S w -> (execOp a.eval oi).run P w = .ok (.value v) w := by (first|rintro w' ⟨s0,s1,s2,s3,s4,s5⟩ | rintro w' ⟨s0,s1,s2,s3,s4⟩ | rintro w' ⟨s0,s1,s2,s3⟩ | rintro w' ⟨s0,s1,s2⟩ | rintro w' ⟨s0,s1⟩ | intro w' s0);go_simp;with_reducible rfl) (ha : a.put (some N) v = a' := by simp only [Act.put,List.setIfInBounds_toArray,List.set_cons_zero,List.set_cons_succ,Eay,Eba];rfl)
 (hc : Emq T B ds l.toList l'.toList i = true := by kernel_rfl) (hw : Region.wanted oi (yielded ops a.tmps) = true := by rfl)
 (hQ : ∀ c a w,Q (.panic c) (a.put oi.dst v) w -> Q (.panic c) a w := by exact fun _ _ _ h => h) : Eaq P md ops Q S ds (fuel + 1) l a w :=
 Edy l' hi hN (Elh hT.out hB.out hc) hQ (Or.inl ⟨hw,hy⟩) hS ha h
end
end Go.Proofs.YtgnijnlgbelifaaGreat.W.GCall
