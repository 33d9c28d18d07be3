import Derived.Test.YtgnijnlgbelifaaGreatGCall
import Derived.Test.YtgnijnlgbelifaaGreatWMore
set_option linter.unusedVariables false
namespace Go.Proofs.YtgnijnlgbelifaaGreat.W.GCall
open RowKit W.PrintWords W.PrintLast W.PrintMore
theorem ZA {p : Prop} (h : p) : Aside0 p := ⟨h⟩
def ZL (n m : Nat) : Array Bool := ((List.range n).map m.testBit).toArray
theorem ZG {p : Prop} (h : p := by first|rfl | (simp;done)|(simp [*];done)|(simp [bne];done)) : p := h
theorem YR {p : Prop} (h : p := by first|rfl | (simp [*,errW_none,errW_some] <;> rfl)) : p := h
theorem YI {p : Prop} [Decidable p] {α : Type} {x y : Option α} {r : α} (h : (if p then x else y) = some r) : (decide p = true ∧ x = some r) ∨ (decide p = false ∧ y = some r) := by
 by_cases c : p
 ·rw [if_pos c] at h;exact .inl ⟨decide_eq_true c,h⟩
 ·rw [if_neg c] at h;exact .inr ⟨decide_eq_false c,h⟩
theorem YN {p : Prop} [Decidable p] {α : Type} {x : Option α} {r : α} (h : (if p then x else none) = some r) : decide p = true ∧ x = some r := by
 by_cases c : p
 ·rw [if_pos c] at h;exact ⟨decide_eq_true c,h⟩
 ·rw [if_neg c] at h;cases h
theorem ZI {α β : Type} {x : Option α} {f : α -> Option β} {b : β} (h : x.bind f = some b) : ∃ a,x = some a ∧ f a = some b := Option.bind_eq_some_iff.mp h
theorem YC {P : Program} {ops : Array Oper} {Q : Exit -> Act -> World -> Prop} {rest : List Oper} {oi : Oper} {a : Act} {w : World} (N : Option Tmp) {f : FuncId} {fn : Func} {as : Array Operand} {ts : Array TypeId} (hf : P.funcs[f]? = some fn) (args : Array Value) {R : Ending -> World -> Prop} (hC : Calls P f args w R)
  (h : ∀ e w',R e w' -> ∃ v,e = .returned v ∧ wpList P ops Q rest (a.put N v) w')
  (hd : oi.dst = N := by rfl) (hg : oi.guard = none := by rfl) (hname : (fn.name == "runtime.NumGoroutine") = false := by kernel_rfl) (hb : fn.body.isSome = true := by rfl)
  (hop : oi.op = .call { callee := .value (.func f),args := as,argTypes := ts } := by rfl)
  (hargs : as.map a.eval = args := by (try simp only [List.map_toArray,List.map_cons,List.map_nil]);first|done | rfl | (simp only [List.length_drop,List.length_take];rfl)) : wpList P ops Q (oi :: rest) a w :=
 Enn N hf args (hC.mono h) hd hg hname hb hop hargs
theorem YK {w W0 w1 w2 : World} {g : Nat} {row : Option Nat} (h : Aside0 (Eaa w W0 g row)) (hk : Eaa w1 w2 g row) (e : Eaa w W0 g row -> Eaa w w1 g row := by intro h_;repeat (first|(with_reducible first|exact h_ | apply zeA | apply zeB | apply zeC | apply zeD | refine Ejc ?_ (Aside0.out (by assumption)) _) | exact h_)) : Aside0 (Eaa w w2 g row) := ⟨Eaa.trans (e h.out) hk (.inl rfl)⟩
section
variable {α : Type} {d : Kd α} {e n c : Nat} {w w1 W0 : World} {base : Nat} {ok : Nat -> Prop} {A : Option Addr} {xs : List α}
theorem WR (h : Aside0 (Kd.R d e W0 base ok (.slice A n c) xs)) (e' : d.C W0 A xs.length xs -> d.C w A xs.length xs := by intro h_;repeat (first|exact h_ | (with_reducible refine Kd.Ecf ?_ _)|(with_reducible refine Kd.Ecg ?_ _)|(with_reducible refine Kd.Ecy ?_))) : d.C w A xs.length xs := e' (Kd.R_reads' h.out).2.2
theorem WN (h : Aside0 (Kd.N d e W0 base ok (.slice A n c) xs)) (e' : d.C W0 A xs.length xs -> d.C w A xs.length xs := by intro h_;repeat (first|exact h_ | (with_reducible refine Kd.Ecf ?_ _)|(with_reducible refine Kd.Ecg ?_ _)|(with_reducible refine Kd.Ecy ?_))) : d.C w A xs.length xs := e' (Kd.N_reads' h.out).2.2
theorem WV (h : Aside0 (Kd.V d e W0 base ok (.slice A n c) xs)) (e' : d.C W0 A xs.length xs -> d.C w A xs.length xs := by intro h_;repeat (first|exact h_ | (with_reducible refine Kd.Ecf ?_ _)|(with_reducible refine Kd.Ecg ?_ _)|(with_reducible refine Kd.Ecy ?_))) : d.C w A xs.length xs := e' (Kd.V_reads' h.out).2.2
theorem CR (h : Aside0 (Kd.R d e W0 base ok (.slice A n c) xs)) : n <= c := (Kd.R_reads' h.out).2.1
theorem CN (h : Aside0 (Kd.N d e W0 base ok (.slice A n c) xs)) : n <= c := (Kd.N_reads' h.out).2.1
theorem CV (h : Aside0 (Kd.V d e W0 base ok (.slice A n c) xs)) : n <= c := (Kd.V_reads' h.out).2.1
end
end Go.Proofs.YtgnijnlgbelifaaGreat.W.GCall
namespace Go.Proofs.YtgnijnlgbelifaaGreat.W.GCall
open RowKit W.PrintWords W.PrintLast W.PrintMore
theorem YH {α : Type} {y x : α} (hy : y = x) {p q : Prop} (h : p) (e : y = x -> p -> q := by intro hy_ h_;first|(rw [hy_];with_reducible exact h_)|(have h2_ := (Option.bind_some _ _).symm.trans h_;rw [hy_];with_reducible exact h2_)|(have h2_ := (Option.bind_some _ _).symm.trans h_;with_reducible exact h2_) | with_reducible exact h_ | (rw [hy_];exact h_) | exact h_) : q := e hy h
theorem YO {p : Prop} (h : p := by first|omega | exact Nat.le_refl _) : p := h
theorem YE {p : Prop} (h : p := by first|exact Kd.Eep _ _ _ _ _ | exact Kd.Eet _ _ _ _ _ | exact Kd.Eef _ _ _ _ _ | exact Kd.Eeu _ _ _ _ _ | exact Kd.Edv _ _ _ _ _) : p := h
section
variable {P : Program} {ops : Array Oper} {Q : Exit -> Act -> World -> Prop} {md : Region.Mode} {S : World -> Prop} {ds : List Nat} {T : Bool × List (List Nat × List Nat)} {B : List Nat}
theorem YG (f : FuncId) {o : Oper} {rest : List Oper} {a : Act} {W : World} {as : Array Operand} {ts : Array TypeId} (h : wpList P ops Q (o :: rest) a W) (_ho : o.op = .call { callee := .value (.func f),args := as,argTypes := ts } := by exact rfl) : wpList P ops Q (o :: rest) a W := h
theorem YS {oi : Oper} {N : Option Tmp} {a : Act} {w : World} {K : Act -> World -> Prop} {f : FuncId} {fn : Func} {as : Array Operand} {ts : Array TypeId} (hf : P.funcs[f]? = some fn) (args : Array Value)
 (h : Calls P f args w fun e w' => ∃ v, e = .returned v ∧ K (a.put N v) w') (hname : (fn.name == "runtime.NumGoroutine") = false := by kernel_rfl) (hb : fn.body.isSome = true := by rfl) (hw : Region.wanted oi (yielded ops a.tmps) = true := by rfl) (hN : oi.dst = N := by rfl)
 (hop : oi.op = .call { callee := .value (.func f),args := as,argTypes := ts } := by rfl) (hargs : as.map a.eval = args := by (try simp only [List.map_toArray,List.map_cons,List.map_nil]);first|done | rfl | (simp only [List.length_drop,List.length_take];rfl)) : if Region.wanted oi (yielded ops a.tmps) = true then Oper.wp P oi a w K Q else K (a.put N undef) w :=
 goes_ hf hname hb args hw hN hop hargs h
end
end Go.Proofs.YtgnijnlgbelifaaGreat.W.GCall
namespace Go.Proofs.YtgnijnlgbelifaaGreat.W.GCall
open RowKit W.PrintWords W.PrintLast W.PrintMore
theorem BS {w W0 W1 W2 : World} (h : Aside0 (Below w.heap.size w W0)) (hb : Below W1.heap.size W1 W2) (e : Below w.heap.size w W0 -> Below w.heap.size w W1 := by intro h_;repeat (first|(with_reducible first|exact h_ | apply zbA | apply zbB | apply zbC | refine Ebv ?_ (Aside0.out (by assumption))) | exact h_)) : Aside0 (Below w.heap.size w W2) := ⟨Eai (e h.out) hb⟩
theorem SZ {w W0 W1 : World} (h : Aside0 (Below w.heap.size w W0)) (e : Below w.heap.size w W0 -> Below w.heap.size w W1 := by intro h_;repeat (first|(with_reducible first|exact h_ | apply zbA | apply zbB | apply zbC | refine Ebv ?_ (Aside0.out (by assumption))) | exact h_)) : w.heap.size <= W1.heap.size := Eao (e h.out)
theorem KNN {α : Type} {d : Kd α} {e base g : Nat} {ok : Nat -> Prop} {v : Value} {xs : List α} {W1 w1 w2 : World} (h : Aside0 (Kd.N d e W1 base ok v xs)) (hk : Eaa w1 w2 g none) (hok : ∀ k,ok k -> k ≠ g) (e2 : Kd.N d e W1 base ok v xs -> Kd.N d e w1 base ok v xs := by intro h_;(with_reducible repeat (first|apply Kd.Eil | apply Kd.Eim | apply Kd.Efd));exact h_) : Aside0 (Kd.N d e w2 base ok v xs) := ⟨Kd.Emd (e2 h.out) hk hok⟩
theorem YA {p q : Prop} (h : p) (e : p -> q := by intro h_;first|(rw [add_block];exact h_)|(show (Addr.add _ _).block ≠ _;rw [add_block];exact h_) | exact h_) : q := e h
section
variable {P : Program} {ops : Array Oper} {Q : Exit -> Act -> World -> Prop} {md : Region.Mode} {S : World -> Prop} {ds : List Nat}
theorem YZ (N : Option Tmp) {v : Value} {fuel : Nat} {l : Array Bool} {a a' : Act} {w : World} (h : Eaq P md ops Q S ds fuel l a' w) (ha : a.put N v = a' := by simp only [Act.put,zuA,zuB,zuC,Eay,Eba];rfl) : Eaq P md ops Q S ds fuel l (a.put N v) w := Efk ha h
end
section
variable {P : Program} {ops : Array Oper} {o : Oper} {a : Act} {Q : Exit -> Act -> World -> Prop} {Kc : Act -> World -> Prop}
theorem YB (N : Tmp) (cs : Array Value) (t : TypeId) {W : World}
  (h : ∀ g,g = W.heap.size -> ∀ w1,w1.heap[g]? = some (.cells cs t (0,0)) -> Below W.heap.size W w1 -> Kc (a.put o.dst (.pointer (some ⟨g,0,none⟩))) w1) (hd : o.dst = some N := by rfl) (hw : Region.wanted o (yielded ops a.tmps) = true := by rfl)
  (hr : (execOp a.eval o).run P W = .ok (.value (.pointer (some ⟨W.heap.size,0,none⟩))) (W.alloc (.cells cs t (0,0))) := by first|(go_simp;done)|(go_simp;rfl)) : if Region.wanted o (yielded ops a.tmps) = true then Oper.wp P o a W Kc Q else Kc (a.put o.dst undef) W :=
 Elu hw hd hr h
end
end Go.Proofs.YtgnijnlgbelifaaGreat.W.GCall
namespace Go.Proofs.YtgnijnlgbelifaaGreat.W.GCall
open RowKit W.PrintWords W.PrintLast W.PrintMore
theorem YJ {α β : Type} {x : Option α} {f : α -> Option β} {b : β} (h : x.bind f = some b) : ∃ a,Aside0 (x = some a) ∧ f a = some b := (Option.bind_eq_some_iff.mp h).imp fun _ h => ⟨⟨h.1⟩,h.2⟩
theorem YF {t : Bool} {α : Type} {x y : Option α} {r : α} (h : (if t = true then x else y) = some r) : (t = true ∧ x = some r) ∨ (t = false ∧ y = some r) := by
 cases t
 ·exact .inr ⟨rfl,h⟩
 ·exact .inl ⟨rfl,h⟩
theorem YM {p : Prop} [Decidable p] {α : Type} {x y : Option α} {r : α} (h : (if p then x else y) = some r) (hn : ¬ (y = some r) := by simp) : p ∧ x = some r := by
 by_cases c : p
 ·rw [if_pos c] at h;exact ⟨c,h⟩
 ·rw [if_neg c] at h;exact absurd h hn
theorem YW (w : World) (a b c : Nat) : (w.drewN (a + b)).drewN c = w.drewN (a + (b + c)) := Eq.trans (World.drewN_drewN _ _ _) (congrArg (World.drewN _) (Nat.add_assoc _ _ _))
theorem YQ {w W0 W1 : World} {g : Nat} (hg : g = W1.heap.size) (h : Aside0 (Below w.heap.size w W0)) (e : Below w.heap.size w W0 -> Below w.heap.size w W1 := by intro h_;repeat (first|(with_reducible first|exact h_ | apply zbA | apply zbB | apply zbC | refine Ebv ?_ (Aside0.out (by assumption))) | exact h_)) : Aside0 (w.heap.size <= g) := ⟨by rw [hg];exact Eao (e h.out)⟩
theorem ZY {w W0 : World} {g : Nat} {o : Obj} (h : W0.heap[g]? = some o) (e : W0.heap[g]? = some o -> w.heap[g]? = some o := by intro h_;(with_reducible repeat (first|apply zhA | apply zhB | apply zhC));exact h_) : w.heap[g]? = some o := e h
end Go.Proofs.YtgnijnlgbelifaaGreat.W.GCall
