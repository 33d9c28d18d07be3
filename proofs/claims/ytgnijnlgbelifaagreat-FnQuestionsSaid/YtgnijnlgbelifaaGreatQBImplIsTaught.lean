import Derived.Test.YtgnijnlgbelifaaGreatQImplIsTaught1
import Derived.Test.YtgnijnlgbelifaaGreatGUp
namespace Go.Proofs.YtgnijnlgbelifaaGreat.Q
open Go.RowKit Go.Proofs.YtgnijnlgbelifaaGreatW.PrintWords Go.Proofs.YtgnijnlgbelifaaGreatW.PrintLast Go.Proofs.YtgnijnlgbelifaaGreatW.PrintMore Go.Proofs.YtgnijnlgbelifaaGreatW.GCall
attribute [local go_sem] Ebu Ebv Ecl Ecm Ebk Ebl Ebw Ebx
set_option linter.unusedVariables false
set_option maxHeartbeats 3000000
set_option maxRecDepth 100000
set_option linter.unusedSimpArgs false
def GB.f (k : Nat) (l0 : List (List Int)) (a1 : Int) : Option (Bool) := (GY.f k l0 a1).bind fun d => (some d)
theorem GB.calls (k : Nat) (A0 : Option Addr) (c0 : Nat) (l0 : List (List Int)) (a1 : Int) (r : Bool) (w : World) (m : Kd.C (Kd.slice 3 (Kd.int .i64)) w A0 l0.length l0) (n : l0.length <= c0) (h : GB.f k l0 a1 = some r) :
  Calls Tryz.prog 71 #[.slice A0 l0.length c0,.int .i64 a1] w fun e w' => e = .returned (.bool r) ∧ Below w.heap.size w w' := by
 have p := ZA m;have q := ZA n;clear m n;have HB := ZA (Below.refl w.heap.size w);have H : ((GY.f k l0 a1).bind fun j => (some j)) = some r := h;clear h;replace H := YJ H;obtain ⟨j,A3,H⟩ := H;obtain rfl := Option.some.inj H;go_enter Tryz.func71,Tryz.ntmps71
 go_wp2_with (first|((with_reducible refine Eaf (N := 3) rfl ?_);refine ZE 3 #[.int .i64 a1] 3 ?_;intro i hg w4 hbox hb;have d := ZA (hbox);have aa := YQ hg HB;have ab := YQ hg HB;replace HB := BS HB hb;clear hb hbox hg)|((with_reducible refine Eb (f := 125) rfl ?_);refine Ecq (some 7) rfl rfl Tryz.func125 (by kernel_rfl) rfl #[.slice A0 l0.length c0,.func (.func 126) #[] #[.pointer (some ⟨i,0,none⟩)]] rfl (by (try simp only [List.map_toArray,List.map_cons,List.map_nil]);first|done|rfl|(simp only [List.length_drop,List.length_take];rfl)) ?_;(with_reducible refine (GY.calls k _ _ l0 a1 j _ (ZR (Kd.Eac p.out HB.out)) q.out ((Ebc (cs := #[.int .i64 a1]) (t := 3) (by exact ZH d) 0).trans rfl) A3.out).mono ?_);rintro e w5 ⟨rfl,hb⟩;refine ⟨_,rfl,?_⟩;replace d := ZA (Eaa (g := i) (o := .cells #[.int .i64 a1] 3 (0,0)) (by exact ZH d) hb);replace HB := ZA (Eag (ZQ HB) hb)))
 go_ret;exact ⟨YR,ZQ HB⟩
def GN.l0 : Nat -> Int -> List Int -> Int -> Int -> Option (Int)
 | 0,_,_,_,_ => none
 | k + 1,x3,x6,x7,x8 => if x8 < x7 then (if 0 <= x8 then (if x8 < (x6.length : Int) then (if (rd x6 x8) = x3 then (GN.l0 k x3 x6 x7 (wrap64 (x8 + 1))) else (some (rd x6 x8))) else (none)) else (none)) else (some x3)
def GN.f (k : Nat) (l0 : List Int) : Option (Int) := GN.l0 k 0 l0 (l0.length : Int) 0
theorem GN.calls (k : Nat) (A0 : Option Addr) (c0 : Nat) (l0 : List Int) (r : Int) (w : World) (s : Kd.C (Kd.int .i64) w A0 l0.length l0) (t : l0.length <= c0) (h : GN.f k l0 = some r) :
  Calls Tryz.prog 118 #[.slice A0 l0.length c0] w fun e w' => e = .returned (.int .i64 r) ∧ Drawn0 w w' := by
 have u := ZA s;have ac := ZA t;clear s t;have H : (GN.l0 k 0 l0 (l0.length : Int) 0) = some r := h;clear h;have H' := ZA H;clear H;go_enter Tryz.func118,Tryz.ntmps118;go_wp2
 go_loopg [8] k (fun kq v8 w' => ∃ (d : Int),v8 = .int .i64 d ∧ Aside0 (GN.l0 kq 0 l0 (l0.length : Int) d = some r) ∧ Aside0 (kq <= k) ∧ Drawn0 w w')
 case atStart => exact ⟨(0),ZG,H',⟨Nat.le_refl _⟩,by repeat (first|exact Drawn0.refl _|apply Drawn0.step)⟩
 case round =>
  clear H';obtain ⟨d,rfl,HA,v,⟨m1,rfl⟩⟩ := hrel;cases gk with
  | zero => exact absurd HA.out (by simp [GN.l0])
  | succ k1 =>
   have H := HA.out;clear HA;simp only [GN.l0] at H;replace H := YI H;rcases H with ⟨o,H⟩|⟨o,H⟩;rotate_left
   ·obtain rfl := Option.some.inj H;go_wp2;go_ret;exact ⟨by first|rfl|(simp;done)|(simp [*];done),by repeat (first|exact Drawn0.refl _|apply Drawn0.step)⟩
   replace H := YN H;obtain ⟨aa,H⟩ := H;replace H := YN H;obtain ⟨ab,H⟩ := H;by_cases c5 : (rd l0 d) = 0;rotate_left
   ·rw [if_neg c5] at H;have p : ((rd l0 d) == 0) = false := beq_eq_false_iff_ne.mpr c5;have q : ((rd l0 d) != 0) = true := bne_iff_ne.mpr c5;obtain rfl := Option.some.inj H;have g : 0 <= (d : Int) := ZD;have i : d < (l0.length : Int) := ZD;obtain ⟨n,m,j⟩ := Kd.Eav u.out d g i;cases m;replace g := eq_true g;replace i := eq_true i;go_wp2;go_ret;exact ⟨by first|rfl|(simp;done)|(simp [*];done),by repeat (first|exact Drawn0.refl _|apply Drawn0.step)⟩
   rw [if_pos c5] at H;have p : ((rd l0 d) == 0) = true := beq_iff_eq.mpr c5;have q : ((rd l0 d) != 0) = false := bne_eq_false_iff_eq.mpr c5;clear c5;have H' := ZA H;clear H;have g : 0 <= (d : Int) := ZD;have i : d < (l0.length : Int) := ZD;obtain ⟨n,m,j⟩ := Kd.Eav u.out d g i;cases m;replace g := eq_true g;replace i := eq_true i;go_wp2
   go_roundg k1
   case measure => have := v.out;omega
   case rel => exact ⟨(wrap64 (d + 1)),ZG,H',⟨by have := v.out;omega⟩,by repeat (first|exact Drawn0.refl _|apply Drawn0.step)⟩
def Lh.f (a0 : Int) (a1 : Int) : Option (Int) := some (mx (wrap64 (a0 - a1)) (wrap64 (a1 - a0)))
theorem Lh.calls (a0 : Int) (a1 : Int) (r : Int) (w : World) (h : Lh.f a0 a1 = some r) :
  Calls Tryz.prog 119 #[.int .i64 a0,.int .i64 a1] w fun e w' => e = .returned (.int .i64 r) ∧ Below w.heap.size w w' := by
 have HB := ZA (Below.refl w.heap.size w);have H : (some (mx (wrap64 (a0 - a1)) (wrap64 (a1 - a0)))) = some r := h;clear h;obtain ⟨g,d⟩ : ∃ j_ : Int,(mx (wrap64 (a0 - a1)) (wrap64 (a1 - a0))) = j_ := ⟨_,rfl⟩;replace H : (some g) = some r := by first|(rw [d] at H;exact H)|(simp only [d] at H ⊢;exact H)
 have aa : (if (wrap64 (a0 - a1)) < (wrap64 (a1 - a0)) then (wrap64 (a1 - a0)) else (wrap64 (a0 - a1))) = g := d;obtain rfl := Option.some.inj H;go_enter Tryz.func119,Tryz.ntmps119;go_wp2;go_ret;exact ⟨by first|rfl|(simp [errW_none,errW_some] <;> rfl)|(simp only [<- d];first|rfl|(simp [errW_none,errW_some] <;> rfl))|(simp [*,errW_none,errW_some] <;> rfl),ZQ HB⟩
end Go.Proofs.YtgnijnlgbelifaaGreat.Q
