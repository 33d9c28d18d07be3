import Derived.Test.YtgnijnlgbelifaaGreatQ0
import Derived.Test.YtgnijnlgbelifaaGreatGUp
import Derived.Test.YtgnijnlgbelifaaGreatWRepsOne
namespace Go.Proofs.YtgnijnlgbelifaaGreat.Q
open Go.RowKit Go.Proofs.YtgnijnlgbelifaaGreatW.PrintWords Go.Proofs.YtgnijnlgbelifaaGreatW.PrintLast Go.Proofs.YtgnijnlgbelifaaGreatW.PrintMore Go.Proofs.YtgnijnlgbelifaaGreatW.GCall
attribute [local go_sem] max2_int min2_int max_two min_two max_three min_three max_four min_four
set_option linter.unusedVariables false
set_option maxHeartbeats 3000000
set_option maxRecDepth 100000
set_option linter.unusedSimpArgs false
def laws_big.f (l0 : List Int) (l1 : List Int) : Option (Bool) := if (l0.length : Int) > 1048576 then (some true) else (some (decide ((l1.length : Int) > (wrap64 (1048576 - (l0.length : Int))))))
theorem laws_big.calls (A0 : Option Addr) (c0 : Nat) (l0 : List Int) (A1 : Option Addr) (c1 : Nat) (l1 : List Int) (r : Bool) (w : World) (hr0 : Kd.C (Kd.int .u8) w A0 l0.length l0) (hc0 : l0.length <= c0) (hr1 : Kd.C (Kd.int .u8) w A1 l1.length l1) (hc1 : l1.length <= c1) (h : laws_big.f l0 l1 = some r) :
  Calls Tryz.prog 6 #[.slice A0 l0.length c0,.slice A1 l1.length c1] w fun e w' => e = .returned (.bool r) ∧ Drawn0 w w' := by
 have HR0 := ZA hr0;have HC0 := ZA hc0;clear hr0 hc0;have HR1 := ZA hr1;have HC1 := ZA hc1;clear hr1 hc1;have H := h;clear h;unfold laws_big.f at H;by_cases c3 : (l0.length : Int) > 1048576
 ·rw [if_pos c3] at H;have c3b0 := decide_eq_true c3;have c3b1 : decide (1048576 < l0.length) = true := decide_eq_true (by omega);clear c3;obtain rfl := Option.some.inj H;go_enter Tryz.func6,Tryz.ntmps6;go_wp2;go_ret;exact ⟨by first|rfl|(simp;done)|(simp [*];done),by repeat (first|exact Drawn0.refl _|apply Drawn0.step)⟩
 rw [if_neg c3] at H;have c3b0 := decide_eq_false c3;have c3b1 : decide (1048576 < l0.length) = false := decide_eq_false (by omega);clear c3;obtain rfl := Option.some.inj H;go_enter Tryz.func6,Tryz.ntmps6;go_wp2;go_ret;exact ⟨by first|rfl|(simp;done)|(simp [*];done),by repeat (first|exact Drawn0.refl _|apply Drawn0.step)⟩
def laws_sameInts.l0 : Nat -> List Int -> List Int -> Int -> Int -> Option (Bool)
 | 0,_,_,_,_ => none
 | k + 1,x0,x1,x12,x13 => if x13 < x12 then (if 0 <= x13 then (if x13 < (x0.length : Int) then (if x13 < (x1.length : Int) then (if (rd x0 x13) = (rd x1 x13) then (laws_sameInts.l0 k x0 x1 x12 (wrap64 (x13 + 1))) else (some false)) else (none)) else (none)) else (none)) else (some true)
def laws_sameInts.f (k : Nat) (l0 : List Int) (l1 : List Int) : Option (Bool) := if (l0.length : Int) = (l1.length : Int) then (laws_sameInts.l0 k l0 l1 (l0.length : Int) 0) else (some false)
theorem laws_sameInts.calls (k : Nat) (A0 : Option Addr) (c0 : Nat) (l0 : List Int) (A1 : Option Addr) (c1 : Nat) (l1 : List Int) (r : Bool) (w : World) (hr0 : Kd.C (Kd.int .i64) w A0 l0.length l0) (hc0 : l0.length <= c0) (hr1 : Kd.C (Kd.int .i64) w A1 l1.length l1) (hc1 : l1.length <= c1) (h : laws_sameInts.f k l0 l1 = some r) :
  Calls Tryz.prog 10 #[.slice A0 l0.length c0,.slice A1 l1.length c1] w fun e w' => e = .returned (.bool r) ∧ Drawn0 w w' := by
 have HR0 := ZA hr0;have HC0 := ZA hc0;clear hr0 hc0;have HR1 := ZA hr1;have HC1 := ZA hc1;clear hr1 hc1;have H : (if (l0.length : Int) = (l1.length : Int) then (laws_sameInts.l0 k l0 l1 (l0.length : Int) 0) else (some false)) = some r := h;clear h;by_cases c3 : (l0.length : Int) = (l1.length : Int);rotate_left
 ·rw [if_neg c3] at H;have c3b0 : ((l0.length : Int) == (l1.length : Int)) = false := beq_eq_false_iff_ne.mpr c3;have c3b1 : ((l0.length : Int) != (l1.length : Int)) = true := bne_iff_ne.mpr c3;have c3b2 : (l0.length == l1.length) = false := by first|simpa using c3|(simp at c3 ⊢;omega)
  obtain rfl := Option.some.inj H;go_enter Tryz.func10,Tryz.ntmps10;go_wp2
  repeat (go_quiet (fail);try go_wp2)
  go_ret;exact ⟨by first|rfl|(simp;done)|(simp [*];done),by repeat (first|exact Drawn0.refl _|apply Drawn0.step)⟩
 rw [if_pos c3] at H;have c3b0 : ((l0.length : Int) == (l1.length : Int)) = true := beq_iff_eq.mpr c3;have c3b1 : ((l0.length : Int) != (l1.length : Int)) = false := bne_eq_false_iff_eq.mpr c3;have c3b2 : (l0.length == l1.length) = true := by first|simpa using c3|(simp at c3 ⊢;omega)
 clear c3;have H' := ZA H;clear H;go_enter Tryz.func10,Tryz.ntmps10;go_wp2
 repeat (go_quiet (fail);try go_wp2)
 go_loopg [13] k (fun kq v13 w' => ∃ (x13_1 : Int),v13 = .int .i64 x13_1 ∧ Aside0 (laws_sameInts.l0 kq l0 l1 (l0.length : Int) x13_1 = some r) ∧ Aside0 (kq <= k) ∧ Drawn0 w w')
 case atStart => exact ⟨(0),ZG,H',⟨Nat.le_refl _⟩,by repeat (first|exact Drawn0.refl _|apply Drawn0.step)⟩
 case round =>
  clear H';obtain ⟨x13_1,rfl,HA,HK1,⟨m1,rfl⟩⟩ := hrel;cases gk with
  | zero => exact absurd HA.out (by simp [laws_sameInts.l0])
  | succ k1 =>
   have H := HA.out;clear HA;simp only [laws_sameInts.l0] at H;replace H := YI H;rcases H with ⟨c4b0,H⟩|⟨c4b0,H⟩;rotate_left
   ·obtain rfl := Option.some.inj H;go_wp2
    repeat (go_quiet (fail);try go_wp2)
    go_ret;exact ⟨by first|rfl|(simp;done)|(simp [*];done),by repeat (first|exact Drawn0.refl _|apply Drawn0.step)⟩
   replace H := YN H;obtain ⟨c5b0,H⟩ := H;replace H := YN H;obtain ⟨c6b0,H⟩ := H;replace H := YN H;obtain ⟨c7b0,H⟩ := H;by_cases c8 : (rd l0 x13_1) = (rd l1 x13_1);rotate_left
   ·rw [if_neg c8] at H;have c8b0 : ((rd l0 x13_1) == (rd l1 x13_1)) = false := beq_eq_false_iff_ne.mpr c8;have c8b1 : ((rd l0 x13_1) != (rd l1 x13_1)) = true := bne_iff_ne.mpr c8;obtain rfl := Option.some.inj H;have p101 : 0 <= (x13_1 : Int) := ZD;have q101 : x13_1 < (l0.length : Int) := ZD;obtain ⟨ad101,e101,hx101_0⟩ := Kd.at_int HR0.out x13_1 p101 q101;cases e101;replace p101 := eq_true p101;replace q101 := eq_true q101;have p102 : 0 <= (x13_1 : Int) := ZD;have q102 : x13_1 < (l1.length : Int) := ZD;obtain ⟨ad102,e102,hx102_0⟩ := Kd.at_int HR1.out x13_1 p102 q102;cases e102;replace p102 := eq_true p102;replace q102 := eq_true q102;go_wp2
    repeat (go_quiet (fail);try go_wp2)
    go_ret;exact ⟨by first|rfl|(simp;done)|(simp [*];done),by repeat (first|exact Drawn0.refl _|apply Drawn0.step)⟩
   rw [if_pos c8] at H;have c8b0 : ((rd l0 x13_1) == (rd l1 x13_1)) = true := beq_iff_eq.mpr c8;have c8b1 : ((rd l0 x13_1) != (rd l1 x13_1)) = false := bne_eq_false_iff_eq.mpr c8;clear c8;have H' := ZA H;clear H;have p101 : 0 <= (x13_1 : Int) := ZD;have q101 : x13_1 < (l0.length : Int) := ZD;obtain ⟨ad101,e101,hx101_0⟩ := Kd.at_int HR0.out x13_1 p101 q101;cases e101;replace p101 := eq_true p101;replace q101 := eq_true q101;have p102 : 0 <= (x13_1 : Int) := ZD;have q102 : x13_1 < (l1.length : Int) := ZD;obtain ⟨ad102,e102,hx102_0⟩ := Kd.at_int HR1.out x13_1 p102 q102;cases e102;replace p102 := eq_true p102;replace q102 := eq_true q102;go_wp2
   repeat (go_quiet (fail);try go_wp2)
   go_roundg k1
   case measure => have := HK1.out;omega
   case rel => exact ⟨(wrap64 (x13_1 + 1)),ZG,H',⟨by have := HK1.out;omega⟩,by repeat (first|exact Drawn0.refl _|apply Drawn0.step)⟩
def laws_pIn.l0 : Nat -> Int -> List Int -> Int -> Int -> Option (Bool)
 | 0,_,_,_,_ => none
 | k + 1,x1,x7,x8,x9 => if x9 < x8 then (if 0 <= x9 then (if x9 < (x7.length : Int) then (if (rd x7 x9) = x1 then (some true) else (laws_pIn.l0 k x1 x7 x8 (wrap64 (x9 + 1)))) else (none)) else (none)) else (some false)
def laws_pIn.f (k : Nat) (l0 : List Int) (a1 : Int) : Option (Bool) := laws_pIn.l0 k a1 l0 (l0.length : Int) 0
theorem laws_pIn.calls (k : Nat) (A0 : Option Addr) (c0 : Nat) (l0 : List Int) (a1 : Int) (r : Bool) (w : World) (hr0 : Kd.C (Kd.int .i64) w A0 l0.length l0) (hc0 : l0.length <= c0) (h : laws_pIn.f k l0 a1 = some r) :
  Calls Tryz.prog 16 #[.slice A0 l0.length c0,.int .i64 a1] w fun e w' => e = .returned (.bool r) ∧ Drawn0 w w' := by
 have HR0 := ZA hr0;have HC0 := ZA hc0;clear hr0 hc0;have H : (laws_pIn.l0 k a1 l0 (l0.length : Int) 0) = some r := h;clear h;have H' := ZA H;clear H;go_enter Tryz.func16,Tryz.ntmps16;go_wp2
 go_loopg [9] k (fun kq v9 w' => ∃ (x9_1 : Int),v9 = .int .i64 x9_1 ∧ Aside0 (laws_pIn.l0 kq a1 l0 (l0.length : Int) x9_1 = some r) ∧ Aside0 (kq <= k) ∧ Drawn0 w w')
 case atStart => exact ⟨(0),ZG,H',⟨Nat.le_refl _⟩,by repeat (first|exact Drawn0.refl _|apply Drawn0.step)⟩
 case round =>
  clear H';obtain ⟨x9_1,rfl,HA,HK1,⟨m1,rfl⟩⟩ := hrel;cases gk with
  | zero => exact absurd HA.out (by simp [laws_pIn.l0])
  | succ k1 =>
   have H := HA.out;clear HA;simp only [laws_pIn.l0] at H;replace H := YI H;rcases H with ⟨c3b0,H⟩|⟨c3b0,H⟩;rotate_left
   ·obtain rfl := Option.some.inj H;go_wp2;go_ret;exact ⟨by first|rfl|(simp;done)|(simp [*];done),by repeat (first|exact Drawn0.refl _|apply Drawn0.step)⟩
   replace H := YN H;obtain ⟨c4b0,H⟩ := H;replace H := YN H;obtain ⟨c5b0,H⟩ := H;by_cases c6 : (rd l0 x9_1) = a1
   ·rw [if_pos c6] at H;have c6b0 : ((rd l0 x9_1) == a1) = true := beq_iff_eq.mpr c6;have c6b1 : ((rd l0 x9_1) != a1) = false := bne_eq_false_iff_eq.mpr c6;clear c6;obtain rfl := Option.some.inj H;have p101 : 0 <= (x9_1 : Int) := ZD;have q101 : x9_1 < (l0.length : Int) := ZD;obtain ⟨ad101,e101,hx101_0⟩ := Kd.at_int HR0.out x9_1 p101 q101;cases e101;replace p101 := eq_true p101;replace q101 := eq_true q101;go_wp2;go_ret;exact ⟨by first|rfl|(simp;done)|(simp [*];done),by repeat (first|exact Drawn0.refl _|apply Drawn0.step)⟩
   rw [if_neg c6] at H;have c6b0 : ((rd l0 x9_1) == a1) = false := beq_eq_false_iff_ne.mpr c6;have c6b1 : ((rd l0 x9_1) != a1) = true := bne_iff_ne.mpr c6;have H' := ZA H;clear H;have p101 : 0 <= (x9_1 : Int) := ZD;have q101 : x9_1 < (l0.length : Int) := ZD;obtain ⟨ad101,e101,hx101_0⟩ := Kd.at_int HR0.out x9_1 p101 q101;cases e101;replace p101 := eq_true p101;replace q101 := eq_true q101;go_wp2
   go_roundg k1
   case measure => have := HK1.out;omega
   case rel => exact ⟨(wrap64 (x9_1 + 1)),ZG,H',⟨by have := HK1.out;omega⟩,by repeat (first|exact Drawn0.refl _|apply Drawn0.step)⟩
def IsS82 (w0 W : World) (g : Nat) (f0 : List Int) (f1 : Int) (f2 : Int) : Prop := ∃ A0 c0,W.heap[g]? = some (.cells #[.slice A0 f0.length c0,.int .i64 f1,.int .u64 f2] 82 (0,0)) ∧ w0.heap.size <= g ∧ Kd.C (Kd.int .u8) w0 A0 f0.length f0
theorem IsS82.grown {w0 W : World} {g : Nat} {f0 : List Int} {f1 : Int} {f2 : Int} {W1 : World} {row : Option Nat} (h : IsS82 w0 W g f0 f1 f2) (hw : W.grownBy W1 row) (hne : some g ≠ row) : IsS82 w0 W1 g f0 f1 f2 := by
 obtain ⟨A0,c0,hb,hg,hr0⟩ := h;exact ⟨A0,c0,blk_grown hb hw hne,hg,hr0⟩
theorem IsS82.own_neN {w0 W : World} {g : Nat} {f0 : List Int} {f1 : Int} {f2 : Int} {α : Type} {d : Kd α} {e : Nat} {base : Nat} {ok : Nat -> Prop} {v : Value} {xs : List α} (h : IsS82 w0 W g f0 f1 f2) (ho : Kd.N d e W base ok v xs) (ht : e ≠ 82) : some g ≠ v.ownBlock := by
 obtain ⟨A0,c0,hb,hg,hr0⟩ := h;exact Kd.N_ne ho hb ht
theorem IsS82.fresh {w0 W : World} {g : Nat} {f0 : List Int} {f1 : Int} {f2 : Int} (h : IsS82 w0 W g f0 f1 f2) : ∀ k,W.heap.size <= k -> k ≠ g := by
 obtain ⟨A0,c0,hb,hg,hr0⟩ := h;exact Kd.freshB hb
theorem IsS82.kept {w0 W : World} {g : Nat} {f0 : List Int} {f1 : Int} {f2 : Int} {W1 : World} {S : Nat -> Prop} (h : IsS82 w0 W g f0 f1 f2) (hk : Kept W W1 S) (hne : ¬ S g) : IsS82 w0 W1 g f0 f1 f2 := by
 obtain ⟨A0,c0,hb,hg,hr0⟩ := h;exact ⟨A0,c0,blk_kept hb hk hne,hg,hr0⟩
theorem IsS82.below {w0 W : World} {g : Nat} {f0 : List Int} {f1 : Int} {f2 : Int} {W1 : World} (h : IsS82 w0 W g f0 f1 f2) (hw : Below W.heap.size W W1) : IsS82 w0 W1 g f0 f1 f2 := h.grown (grown_of_below hw none) (by simp)
theorem IsS82.alloc {w0 W : World} {g : Nat} {f0 : List Int} {f1 : Int} {f2 : Int} (h : IsS82 w0 W g f0 f1 f2) (o : Obj) : IsS82 w0 (W.alloc o) g f0 f1 f2 := h.below (below_alloc (Below.refl _ _) o)
theorem IsS82.drewN {w0 W : World} {g : Nat} {f0 : List Int} {f1 : Int} {f2 : Int} (h : IsS82 w0 W g f0 f1 f2) (m : Nat) : IsS82 w0 (W.drewN m) g f0 f1 f2 := h
theorem IsS82.drew {w0 W : World} {g : Nat} {f0 : List Int} {f1 : Int} {f2 : Int} (h : IsS82 w0 W g f0 f1 f2) : IsS82 w0 W.drew g f0 f1 f2 := h
theorem IsS82.at_ {w0 W : World} {g : Nat} {f0 : List Int} {f1 : Int} {f2 : Int} {w' : World} {m : Nat} (hq : W.drewN m = w') (h : IsS82 w0 W g f0 f1 f2) : IsS82 w0 w' g f0 f1 f2 := by subst hq;exact IsS82.drewN h m
theorem IsS82.apart {w0 W : World} {g : Nat} {f0 : List Int} {f1 : Int} {f2 : Int} {α : Type} {d : Kd α} {e : Nat} {base : Nat} {ok : Nat -> Prop} {v : Value} {xs : List α} (h : IsS82 w0 W g f0 f1 f2) (ho : d.R e W base ok v xs) (ht : ∀ q,q ∈ e :: d.E -> q ≠ 82) : d.R e W base (fun k => ok k ∧ k ≠ g) v xs := by
 obtain ⟨A0,c0,hb,hg,hr0⟩ := h;exact Kd.R_types ho hb ht
theorem IsS82.own_ne {w0 W : World} {g : Nat} {f0 : List Int} {f1 : Int} {f2 : Int} {α : Type} {d : Kd α} {e : Nat} {base : Nat} {ok : Nat -> Prop} {v : Value} {xs : List α} (h : IsS82 w0 W g f0 f1 f2) (ho : d.R e W base ok v xs) (ht : e ≠ 82) : some g ≠ v.ownBlock := by
 obtain ⟨A0,c0,hb,hg,hr0⟩ := h;exact Kd.R_ne ho hb ht
theorem IsS82.apartQ {w0 W : World} {g : Nat} {f0 : List Int} {f1 : Int} {f2 : Int} {α : Type} {d : Kd α} {e : Nat} {base : Nat} {ok : Nat -> Prop} {v : Value} {xs : List α} (h : IsS82 w0 W g f0 f1 f2) (ho : d.Q e W base ok v xs) (ht : ∀ q,q ∈ e :: d.E -> q ≠ 82) : d.Q e W base (fun k => ok k ∧ k ≠ g) v xs := by
 obtain ⟨A0,c0,hb,hg,hr0⟩ := h;exact Kd.Q_types ho hb ht
theorem IsS82.own_neQ {w0 W : World} {g : Nat} {f0 : List Int} {f1 : Int} {f2 : Int} {α : Type} {d : Kd α} {e : Nat} {base : Nat} {ok : Nat -> Prop} {v : Value} {xs : List α} (h : IsS82 w0 W g f0 f1 f2) (ho : d.Q e W base ok v xs) (ht : e ≠ 82) : some g ≠ v.ownBlock := by
 obtain ⟨A0,c0,hb,hg,hr0⟩ := h;exact Kd.Q_ne ho hb ht
theorem IsS82.apartS {w0 W : World} {g : Nat} {f0 : List Int} {f1 : Int} {f2 : Int} {α : Type} {d : Kd α} {e : Nat} {base : Nat} {ok : Nat -> Prop} {v : Value} {xs : List α} (h : IsS82 w0 W g f0 f1 f2) (ho : d.S e W base ok v xs) (ht : ∀ q,q ∈ e :: d.E -> q ≠ 82) : d.S e W base (fun k => ok k ∧ k ≠ g) v xs := by
 obtain ⟨A0,c0,hb,hg,hr0⟩ := h;exact Kd.S_types ho hb ht
theorem IsS82.own_neS {w0 W : World} {g : Nat} {f0 : List Int} {f1 : Int} {f2 : Int} {α : Type} {d : Kd α} {e : Nat} {base : Nat} {ok : Nat -> Prop} {v : Value} {xs : List α} (h : IsS82 w0 W g f0 f1 f2) (ho : d.S e W base ok v xs) (ht : e ≠ 82) : some g ≠ v.ownBlock := by
 obtain ⟨A0,c0,hb,hg,hr0⟩ := h;exact Kd.S_ne ho hb ht
theorem IsS82.lt {w0 W : World} {g : Nat} {f0 : List Int} {f1 : Int} {f2 : Int} (h : IsS82 w0 W g f0 f1 f2) : g < W.heap.size := by
 obtain ⟨A0,c0,hb,hg,hr0⟩ := h;exact blk_lt hb
theorem IsS82.ge {w0 W : World} {g : Nat} {f0 : List Int} {f1 : Int} {f2 : Int} (h : IsS82 w0 W g f0 f1 f2) : w0.heap.size <= g := by
 obtain ⟨A0,c0,hb,hg,hr0⟩ := h;exact hg
theorem IsS82.ne_blk {w0 W : World} {g : Nat} {f0 : List Int} {f1 : Int} {f2 : Int} {a : Nat} {cs : Array Value} {t : TypeId} {fr : Nat × Nat} (h : IsS82 w0 W g f0 f1 f2) (hb2 : W.heap[a]? = some (.cells cs t fr)) (ht : t ≠ 82) : g ≠ a := by
 obtain ⟨A0,c0,hb,hg,hr0⟩ := h;rintro rfl;rw [hb] at hb2;injection hb2 with hb2
 injection hb2 with _ ht2
 exact ht ht2.symm
theorem IsS82.far {w0 W : World} {g : Nat} {f0 : List Int} {f1 : Int} {f2 : Int} {p : Addr} (h : IsS82 w0 W g f0 f1 f2) (hne : g ≠ p.block) (u : Value) : IsS82 w0 (W.setCell p u) g f0 f1 f2 := by
 obtain ⟨A0,c0,hb,hg,hr0⟩ := h;exact ⟨A0,c0,blk_far hb hne u,hg,hr0⟩
theorem IsS82.farb {w0 W : World} {g : Nat} {f0 : List Int} {f1 : Int} {f2 : Int} {b j : Nat} {u : Value} (hne : g ≠ b) (h : IsS82 w0 W g f0 f1 f2) : IsS82 w0 (W.setCell ⟨b,j,none⟩ u) g f0 f1 f2 := IsS82.far (p := ⟨b,j,none⟩) h hne u
theorem cellS82_0 {W : World} {g : Nat} {A0 : Option Addr} {c0 : Nat} {f0 : List Int} {f1 : Int} {f2 : Int} (h : W.heap[g]? = some (.cells #[.slice A0 f0.length c0,.int .i64 f1,.int .u64 f2] 82 (0,0))) : W.cell? ⟨g,0,none⟩ = some (.slice A0 f0.length c0) := (blk_cell h 0).trans rfl
theorem cellS82_1 {W : World} {g : Nat} {A0 : Option Addr} {c0 : Nat} {f0 : List Int} {f1 : Int} {f2 : Int} (h : W.heap[g]? = some (.cells #[.slice A0 f0.length c0,.int .i64 f1,.int .u64 f2] 82 (0,0))) : W.cell? ⟨g,1,none⟩ = some (.int .i64 f1) := (blk_cell h 1).trans rfl
theorem IsS82.set_1 {w0 W : World} {g : Nat} {f0 : List Int} {f1 : Int} {f2 : Int} (h : IsS82 w0 W g f0 f1 f2) (x : Int) : IsS82 w0 (W.setCell ⟨g,1,none⟩ (.int .i64 x)) g f0 x f2 := by
 obtain ⟨A0,c0,hb,hg,hr0⟩ := h;exact ⟨A0,c0,by simpa using blk_set hb 1 (.int .i64 x),hg,hr0⟩
theorem cellS82_2 {W : World} {g : Nat} {A0 : Option Addr} {c0 : Nat} {f0 : List Int} {f1 : Int} {f2 : Int} (h : W.heap[g]? = some (.cells #[.slice A0 f0.length c0,.int .i64 f1,.int .u64 f2] 82 (0,0))) : W.cell? ⟨g,2,none⟩ = some (.int .u64 f2) := (blk_cell h 2).trans rfl
theorem IsS82.set_2 {w0 W : World} {g : Nat} {f0 : List Int} {f1 : Int} {f2 : Int} (h : IsS82 w0 W g f0 f1 f2) (x : Int) : IsS82 w0 (W.setCell ⟨g,2,none⟩ (.int .u64 x)) g f0 f1 x := by
 obtain ⟨A0,c0,hb,hg,hr0⟩ := h;exact ⟨A0,c0,by simpa using blk_set hb 2 (.int .u64 x),hg,hr0⟩
theorem IsS82.new (w0 W : World) (A0 : Option Addr) (c0 : Nat) (f0 : List Int) (f1 : Int) (f2 : Int) (hB : Below w0.heap.size w0 W) (hr0 : Kd.C (Kd.int .u8) w0 A0 f0.length f0) : IsS82 w0 (W.alloc (.cells #[.slice A0 f0.length c0,.int .i64 f1,.int .u64 f2] 82)) W.heap.size f0 f1 f2 := ⟨A0,c0,by simpa using heap_alloc_new W _,hB.size,hr0⟩
theorem zsA {w0 W : World} {g : Nat} {f0 : List Int} {f1 : Int} {f2 : Int} (h : IsS82 w0 W g f0 f1 f2) (o : Obj) : IsS82 w0 (W.alloc o) g f0 f1 f2 := IsS82.alloc h o
theorem zsB {w0 W : World} {g : Nat} {f0 : List Int} {f1 : Int} {f2 : Int} (h : IsS82 w0 W g f0 f1 f2) (m : Nat) : IsS82 w0 (W.drewN m) g f0 f1 f2 := IsS82.drewN h m
theorem zsC {w0 W : World} {g : Nat} {f0 : List Int} {f1 : Int} {f2 : Int} (h : IsS82 w0 W g f0 f1 f2) : IsS82 w0 W.drew g f0 f1 f2 := IsS82.drew h
theorem zsD {w0 W : World} {g : Nat} {f0 : List Int} {f1 : Int} {f2 : Int} (h : IsS82 w0 W g f0 f1 f2) (x : Int) : IsS82 w0 (W.setCell ⟨g,1,none⟩ (.int .i64 x)) g f0 x f2 := IsS82.set_1 h x
theorem zsE {w0 W : World} {g : Nat} {f0 : List Int} {f1 : Int} {f2 : Int} (h : IsS82 w0 W g f0 f1 f2) (x : Int) : IsS82 w0 (W.setCell ⟨g,2,none⟩ (.int .u64 x)) g f0 f1 x := IsS82.set_2 h x
theorem zsF {w0 W : World} {g : Nat} {f0 : List Int} {f1 : Int} {f2 : Int} {b j : Nat} {u : Value} (hne : g ≠ b) (h : IsS82 w0 W g f0 f1 f2) : IsS82 w0 (W.setCell ⟨b,j,none⟩ u) g f0 f1 f2 := IsS82.farb hne h
theorem ZS {w0 W : World} {g : Nat} {f0 : List Int} {f1 : Int} {f2 : Int} {w_ : World} {f0' : List Int} {f1' : Int} {f2' : Int} (h : Aside0 (IsS82 w0 W g f0 f1 f2)) (e_ : IsS82 w0 W g f0 f1 f2 -> IsS82 w0 w_ g f0' f1' f2' := by intro h_;repeat (first|(with_reducible first|exact h_|apply zsA|apply zsB|apply zsC|apply zsD|apply zsE|apply zsF (Aside0.out (by assumption)))|exact h_)) : IsS82 w0 w_ g f0' f1' f2' := e_ h.out
theorem ZJ {n : Nat} {w W W0 : World} (h : Aside0 (Below n w W0)) (e : Below n w W0 -> Below n w W := by intro h_;repeat (first|(with_reducible first|exact h_|apply zbA|apply zbB|apply zbC|refine below_set ?_ (IsS82.ge (Aside0.out (by assumption)))|refine below_set ?_ (Aside0.out (by assumption)))|exact h_)) : Below n w W := e h.out
theorem KRR {w0 W : World} {g : Nat} {f0 : List Int} {f1 : Int} {f2 : Int} {α : Type} {d : Kd α} {e : Nat} {base : Nat} {ok : Nat -> Prop} {v : Value} {xs : List α} {W1_ w1_ w2_ : World} (HI : Aside0 (IsS82 w0 W g f0 f1 f2)) (h : Aside0 (d.R e W1_ base ok v xs)) (hk : KeepBut w1_ w2_ g none) (e1 : IsS82 w0 W g f0 f1 f2 -> IsS82 w0 w1_ g f0 f1 f2 := by intro h_;repeat (first|(with_reducible first|exact h_|apply zsA|apply zsB|apply zsC|apply zsD|apply zsE|apply zsF (Aside0.out (by assumption)))|exact h_)) (e2 : d.R e W1_ base ok v xs -> d.R e w1_ base ok v xs := by intro h_;(with_reducible repeat (first|apply zkA|apply zkB|apply zkC));exact h_) (ht : ∀ q,q ∈ e :: d.E -> q ≠ 82 := by decide) : Aside0 (d.R e w2_ base ok v xs) := ⟨Kd.R_mono (Kd.R_keep (IsS82.apart (e1 HI.out) (e2 h.out) ht) hk (fun _ h => h.2)) (fun _ h => h.1)⟩
theorem KSS {w0 W : World} {g : Nat} {f0 : List Int} {f1 : Int} {f2 : Int} {α : Type} {d : Kd α} {e : Nat} {base : Nat} {ok : Nat -> Prop} {v : Value} {xs : List α} {W1_ w1_ w2_ : World} (HI : Aside0 (IsS82 w0 W g f0 f1 f2)) (h : Aside0 (d.S e W1_ base ok v xs)) (hk : KeepBut w1_ w2_ g none) (e1 : IsS82 w0 W g f0 f1 f2 -> IsS82 w0 w1_ g f0 f1 f2 := by intro h_;repeat (first|(with_reducible first|exact h_|apply zsA|apply zsB|apply zsC|apply zsD|apply zsE|apply zsF (Aside0.out (by assumption)))|exact h_)) (e2 : d.S e W1_ base ok v xs -> d.S e w1_ base ok v xs := by intro h_;(with_reducible repeat (first|apply Kd.S_alloc|apply Kd.S_drewN|apply Kd.S_drew));exact h_) (ht : ∀ q,q ∈ e :: d.E -> q ≠ 82 := by decide) : Aside0 (d.S e w2_ base ok v xs) := ⟨Kd.S_mono (Kd.S_keep (IsS82.apartS (e1 HI.out) (e2 h.out) ht) hk (fun _ h => h.2)) (fun _ h => h.1)⟩
def spec_l1Cur_next.f (s0_0 : List Int) (s0_1 : Int) (s0_2 : Int) : Option (Int × Int × Int) := if s0_1 < (s0_0.length : Int) then (if 0 <= s0_1 then (if (wrap64 (s0_1 + 1)) <= (s0_0.length : Int) then (some (wrap64 (rd s0_0 s0_1),wrap64 (s0_1 + 1),IntKind.u64.wrap ((IntKind.u64.wrap ((IntKind.u64.wrap (s0_2 * 6364136223846793005)) + (IntKind.u64.wrap (wrap64 (rd s0_0 s0_1))))) + 1442695040888963407))) else (some (wrap64 (Go.bits .and .u64 ((IntKind.u64.wrap ((IntKind.u64.wrap ((IntKind.u64.wrap (s0_2 * 6364136223846793005)) + (IntKind.u64.wrap (wrap64 (rd s0_0 s0_1))))) + 1442695040888963407)) / 1099511627776) 255),wrap64 (s0_1 + 1),IntKind.u64.wrap ((IntKind.u64.wrap ((IntKind.u64.wrap (s0_2 * 6364136223846793005)) + (IntKind.u64.wrap (wrap64 (rd s0_0 s0_1))))) + 1442695040888963407)))) else (none)) else (if (wrap64 (s0_1 + 1)) <= (s0_0.length : Int) then (some (0,wrap64 (s0_1 + 1),IntKind.u64.wrap ((IntKind.u64.wrap ((IntKind.u64.wrap (s0_2 * 6364136223846793005)))) + 1442695040888963407))) else (some (wrap64 (Go.bits .and .u64 ((IntKind.u64.wrap ((IntKind.u64.wrap ((IntKind.u64.wrap (s0_2 * 6364136223846793005)))) + 1442695040888963407)) / 1099511627776) 255),wrap64 (s0_1 + 1),IntKind.u64.wrap ((IntKind.u64.wrap ((IntKind.u64.wrap (s0_2 * 6364136223846793005)))) + 1442695040888963407))))
theorem spec_l1Cur_next.calls (g : Nat) (s0_0 : List Int) (s0_1 : Int) (s0_2 : Int) (r1 : Int) (r2 : Int) (r3 : Int) (w0 w : World) (hI : IsS82 w0 w g s0_0 s0_1 s0_2) (hB : Below w0.heap.size w0 w) (h : spec_l1Cur_next.f s0_0 s0_1 s0_2 = some (r1,r2,r3)) :
  Calls Tryz.prog 140 #[.pointer (some ⟨g,0,none⟩)] w fun e w' => e = .returned (.int .i64 r1) ∧ IsS82 w0 w' g s0_0 r2 r3 ∧ Below w0.heap.size w0 w' ∧ KeepBut w w' g none := by
 have HI0 := ZA hI;have HK := ZA (KeepBut.refl w g none);have HL := ZA hB.size;clear hI;have HW0 := ZA hB.size;have HB := ZA hB;clear hB;have H := h;clear h;unfold spec_l1Cur_next.f at H;replace H := YI H;rcases H with ⟨c2b0,H⟩|⟨c2b0,H⟩;rotate_left
 ·by_cases c7 : (wrap64 (s0_1 + 1)) <= (s0_0.length : Int)
  ·rw [if_pos c7] at H;have c7b0 := decide_eq_true c7;clear c7;simp only [Option.some.injEq,Prod.mk.injEq] at H;obtain ⟨rfl,rfl,rfl⟩ := H;obtain ⟨ASz8_0,cSz8_0,HGz8,hgz8,HSz8_0⟩ := HI0.out;have hcz8_0 := cellS82_0 HGz8;have hcz8_1 := cellS82_1 HGz8;have hcz8_2 := cellS82_2 HGz8;have hfz8_1 := blk_frozen HGz8 1;have hfz8_2 := blk_frozen HGz8 2;clear HGz8 hgz8;go_enter Tryz.func140,Tryz.ntmps140;go_wp2
   repeat (go_quiet (fail);try go_wp2)
   go_ret;exact ⟨YR,ZS HI0,ZJ HB,ZW HK⟩
  rw [if_neg c7] at H;have c7b0 := decide_eq_false c7;clear c7;simp only [Option.some.injEq,Prod.mk.injEq] at H;obtain ⟨rfl,rfl,rfl⟩ := H;obtain ⟨ASz9_0,cSz9_0,HGz9,hgz9,HSz9_0⟩ := HI0.out;have hcz9_0 := cellS82_0 HGz9;have hcz9_1 := cellS82_1 HGz9;have hcz9_2 := cellS82_2 HGz9;have hfz9_1 := blk_frozen HGz9 1;have hfz9_2 := blk_frozen HGz9 2;clear HGz9 hgz9;go_enter Tryz.func140,Tryz.ntmps140;go_wp2
  repeat (go_quiet (fail);try go_wp2)
  go_ret;exact ⟨YR,ZS HI0,ZJ HB,ZW HK⟩
 replace H := YN H;obtain ⟨c3b0,H⟩ := H;by_cases c4 : (wrap64 (s0_1 + 1)) <= (s0_0.length : Int)
 ·rw [if_pos c4] at H;have c4b0 := decide_eq_true c4;clear c4;simp only [Option.some.injEq,Prod.mk.injEq] at H;obtain ⟨rfl,rfl,rfl⟩ := H;obtain ⟨ASz5_0,cSz5_0,HGz5,hgz5,HSz5_0⟩ := HI0.out;have hcz5_0 := cellS82_0 HGz5;have hcz5_1 := cellS82_1 HGz5;have hcz5_2 := cellS82_2 HGz5;have hfz5_1 := blk_frozen HGz5 1;have hfz5_2 := blk_frozen HGz5 2;clear HGz5 hgz5;have p101 : 0 <= (s0_1 : Int) := ZD;have q101 : s0_1 < (s0_0.length : Int) := ZD;obtain ⟨ad101,e101,hx101_0⟩ := Kd.at_int HSz5_0 s0_1 p101 q101;cases e101;replace hx101_0 := pw_cell_below HB.out hx101_0;replace p101 := eq_true p101;replace q101 := eq_true q101;go_enter Tryz.func140,Tryz.ntmps140;go_wp2
  repeat (go_quiet (fail);try go_wp2)
  go_ret;exact ⟨YR,ZS HI0,ZJ HB,ZW HK⟩
 rw [if_neg c4] at H;have c4b0 := decide_eq_false c4;clear c4;simp only [Option.some.injEq,Prod.mk.injEq] at H;obtain ⟨rfl,rfl,rfl⟩ := H;obtain ⟨ASz6_0,cSz6_0,HGz6,hgz6,HSz6_0⟩ := HI0.out;have hcz6_0 := cellS82_0 HGz6;have hcz6_1 := cellS82_1 HGz6;have hcz6_2 := cellS82_2 HGz6;have hfz6_1 := blk_frozen HGz6 1;have hfz6_2 := blk_frozen HGz6 2;clear HGz6 hgz6;have p101 : 0 <= (s0_1 : Int) := ZD;have q101 : s0_1 < (s0_0.length : Int) := ZD;obtain ⟨ad101,e101,hx101_0⟩ := Kd.at_int HSz6_0 s0_1 p101 q101;cases e101;replace hx101_0 := pw_cell_below HB.out hx101_0;replace p101 := eq_true p101;replace q101 := eq_true q101;go_enter Tryz.func140,Tryz.ntmps140;go_wp2
 repeat (go_quiet (fail);try go_wp2)
 go_ret;exact ⟨YR,ZS HI0,ZJ HB,ZW HK⟩
def spec_l1Cur_pick.f (s0_0 : List Int) (s0_1 : Int) (s0_2 : Int) (a1 : Int) : Option (Int × Int × Int) := if a1 <= 1 then (some (0,s0_1,s0_2)) else ((spec_l1Cur_next.f s0_0 s0_1 s0_2).bind fun bt101 => (if a1 > 200 then ((spec_l1Cur_next.f s0_0 bt101.2.1 bt101.2.2).bind fun bt104 => (if a1 = 0 then (none) else (some (Int.tmod (wrap64 ((wrap64 (bt101.1 * 256)) + bt104.1)) a1,bt104.2.1,bt104.2.2)))) else (if a1 = 0 then (none) else (some (Int.tmod bt101.1 a1,bt101.2.1,bt101.2.2)))))
theorem spec_l1Cur_pick.calls (g : Nat) (s0_0 : List Int) (s0_1 : Int) (s0_2 : Int) (a1 : Int) (r1 : Int) (r2 : Int) (r3 : Int) (w0 w : World) (hI : IsS82 w0 w g s0_0 s0_1 s0_2) (hB : Below w0.heap.size w0 w) (h : spec_l1Cur_pick.f s0_0 s0_1 s0_2 a1 = some (r1,r2,r3)) :
  Calls Tryz.prog 83 #[.pointer (some ⟨g,0,none⟩),.int .i64 a1] w fun e w' => e = .returned (.int .i64 r1) ∧ IsS82 w0 w' g s0_0 r2 r3 ∧ Below w0.heap.size w0 w' ∧ KeepBut w w' g none := by
 have HI0 := ZA hI;have HK := ZA (KeepBut.refl w g none);have HL := ZA hB.size;clear hI;have HW0 := ZA hB.size;have HB := ZA hB;clear hB;have H := h;clear h;unfold spec_l1Cur_pick.f at H;by_cases c3 : a1 <= 1
 ·rw [if_pos c3] at H;have c3b0 := decide_eq_true c3;clear c3;simp only [Option.some.injEq,Prod.mk.injEq] at H;obtain ⟨rfl,rfl,rfl⟩ := H;go_enter Tryz.func83,Tryz.ntmps83;go_wp2;go_ret;exact ⟨YR,ZS HI0,ZJ HB,ZW HK⟩
 rw [if_neg c3] at H;have c3b0 := decide_eq_false c3;clear c3;replace H := YJ H;obtain ⟨⟨t101,t102,t103⟩,A4,H⟩ := H;try dsimp only at H
 replace H := YI H;rcases H with ⟨c5b0,H⟩|⟨c5b0,H⟩;rotate_left
 ·by_cases c10 : a1 = 0
  ·rw [if_pos c10] at H;exact absurd H (by simp)
  rw [if_neg c10] at H;have c10b0 : (a1 == 0) = false := beq_eq_false_iff_ne.mpr c10;have c10b1 : (a1 != 0) = true := bne_iff_ne.mpr c10;simp only [Option.some.injEq,Prod.mk.injEq] at H;obtain ⟨rfl,rfl,rfl⟩ := H;go_enter Tryz.func83,Tryz.ntmps83
  go_wp2_with (first|((with_reducible refine YG 140 ?_);refine YC (some 9) Tryz.func140 #[.pointer (some ⟨g,0,none⟩)] (spec_l1Cur_next.calls g s0_0 s0_1 s0_2 t101 t102 t103 w0 _ (ZS HI0) (ZJ HB) A4.out) ?_;rintro e w11 ⟨rfl,hi,hb,hk⟩;refine ⟨_,rfl,?_⟩;replace HK := YK HK hk;replace HB := ZA (hb);replace HI0 := ZA (hi)))
  go_ret;exact ⟨YR,ZS HI0,ZJ HB,ZW HK⟩
 replace H := YJ H;obtain ⟨⟨t104,t105,t106⟩,A6,H⟩ := H;try dsimp only at H
 by_cases c7 : a1 = 0
 ·rw [if_pos c7] at H;exact absurd H (by simp)
 rw [if_neg c7] at H;have c7b0 : (a1 == 0) = false := beq_eq_false_iff_ne.mpr c7;have c7b1 : (a1 != 0) = true := bne_iff_ne.mpr c7;simp only [Option.some.injEq,Prod.mk.injEq] at H;obtain ⟨rfl,rfl,rfl⟩ := H;go_enter Tryz.func83,Tryz.ntmps83
 go_wp2_with (first|((with_reducible refine YG 140 ?_);refine YC (some 9) Tryz.func140 #[.pointer (some ⟨g,0,none⟩)] (spec_l1Cur_next.calls g s0_0 s0_1 s0_2 t101 t102 t103 w0 _ (ZS HI0) (ZJ HB) A4.out) ?_;rintro e w8 ⟨rfl,hi,hb,hk⟩;refine ⟨_,rfl,?_⟩;replace HK := YK HK hk;replace HB := ZA (hb);replace HI0 := ZA (hi))|((with_reducible refine YG 140 ?_);refine YC (some 15) Tryz.func140 #[.pointer (some ⟨g,0,none⟩)] (spec_l1Cur_next.calls g s0_0 t102 t103 t104 t105 t106 w0 _ (ZS HI0) (ZJ HB) A6.out) ?_;rintro e w9 ⟨rfl,hi,hb,hk⟩;refine ⟨_,rfl,?_⟩;replace HK := YK HK hk;replace HB := ZA (hb);replace HI0 := ZA (hi)))
 go_ret;exact ⟨YR,ZS HI0,ZJ HB,ZW HK⟩
def spec_l1Cur_among.f (s0_0 : List Int) (s0_1 : Int) (s0_2 : Int) (l1 : List Int) : Option (Int × Int × Int) := (spec_l1Cur_pick.f s0_0 s0_1 s0_2 (l1.length : Int)).bind fun bt101 => (if 0 <= bt101.1 then (if bt101.1 < (l1.length : Int) then (some (rd l1 bt101.1,bt101.2.1,bt101.2.2)) else (none)) else (none))
theorem spec_l1Cur_among.calls (g : Nat) (s0_0 : List Int) (s0_1 : Int) (s0_2 : Int) (A1 : Option Addr) (c1 : Nat) (l1 : List Int) (r1 : Int) (r2 : Int) (r3 : Int) (w0 w : World) (hI : IsS82 w0 w g s0_0 s0_1 s0_2) (hB : Below w0.heap.size w0 w) (hr1 : Kd.C (Kd.int .i64) w A1 l1.length l1) (hc1 : l1.length <= c1) (hf1 : ∀ ad,A1 = some ad -> 0 < l1.length -> ad.block ≠ g) (h : spec_l1Cur_among.f s0_0 s0_1 s0_2 l1 = some (r1,r2,r3)) :
  Calls Tryz.prog 60 #[.pointer (some ⟨g,0,none⟩),.slice A1 l1.length c1] w fun e w' => e = .returned (.int .i64 r1) ∧ IsS82 w0 w' g s0_0 r2 r3 ∧ Below w0.heap.size w0 w' ∧ KeepBut w w' g none := by
 have HR1 := ZA hr1;have HC1 := ZA hc1;clear hr1 hc1;have HI0 := ZA hI;have HK := ZA (KeepBut.refl w g none);have HL := ZA hB.size;clear hI;have HW0 := ZA hB.size;have HB := ZA hB;clear hB;have H := h;clear h;unfold spec_l1Cur_among.f at H;replace H := YJ H;obtain ⟨⟨t101,t102,t103⟩,A3,H⟩ := H;try dsimp only at H
 replace H := YN H;obtain ⟨c4b0,H⟩ := H;replace H := YN H;obtain ⟨c5b0,H⟩ := H;simp only [Option.some.injEq,Prod.mk.injEq] at H;obtain ⟨rfl,rfl,rfl⟩ := H;go_enter Tryz.func60,Tryz.ntmps60
 go_wp2_with (first|((with_reducible refine YG 83 ?_);refine YC (some 9) Tryz.func83 #[.pointer (some ⟨g,0,none⟩),.int .i64 (l1.length : Int)] (spec_l1Cur_pick.calls g s0_0 s0_1 s0_2 (l1.length : Int) t101 t102 t103 w0 _ (ZS HI0) (ZJ HB) A3.out) ?_;rintro e w6 ⟨rfl,hi,hb,hk⟩;refine ⟨_,rfl,?_⟩;replace HK := YK HK hk;replace HB := ZA (hb);replace HI0 := ZA (hi);have p104 : 0 <= (t101 : Int) := ZD;have q104 : t101 < (l1.length : Int) := ZD;obtain ⟨ad104,e104,hx104_0⟩ := Kd.at_int HR1.out t101 p104 q104;cases e104;replace hx104_0 := keep_cell HK.out hx104_0 (by first|(rw [add_block];exact hf1 _ rfl (by omega))|exact hf1 _ rfl (by omega)|exact hf1 ad104 rfl (by omega));replace p104 := eq_true p104;replace q104 := eq_true q104))
 go_ret;exact ⟨YR,ZS HI0,ZJ HB,ZW HK⟩
end Go.Proofs.YtgnijnlgbelifaaGreat.Q
