import Derived.Test.YtgnijnlgbelifaaGreatQImplAllWithin
import Derived.WalkSpells
import Derived.Test.YtgnijnlgbelifaaGreatS0Nm231
import Derived.Lib.OwnBridge
import Derived.Test.YtgnijnlgbelifaaGreatS137
import Derived.Test.YtgnijnlgbelifaaGreatWGuard
namespace Go.Proofs.YtgnijnlgbelifaaGreat.Q
open RowKit W.PrintWords W.PrintLast W.PrintMore W.GCall
attribute [local go_sem] Ebi Ebj Ebx Eby Ebb Ebc Ebk Ebl
set_option linter.unusedVariables false
set_option linter.unusedSimpArgs false
def FM.l0 : Nat -> List Int -> Int -> Int -> Int -> Option (Int)
 | 0,_,_,_,_ => none
 | k + 1,x0,x1,x7,x8 => if x8 < x7 then (if 0 <= x8 then (if x8 < (x0.length : Int) then (if x1 = (rd x0 x8) then (some x8) else (FM.l0 k x0 x1 x7 (wrap64 (x8 + 1)))) else (none)) else (none)) else (some (-1))
def FM.f (k : Nat) (l0 : List Int) (a1 : Int) : Option (Int) := FM.l0 k l0 a1 (l0.length : Int) 0
set_option maxHeartbeats 3000000 in
set_option maxRecDepth 100000 in
theorem FM.calls (k : Nat) (A0 : Option Addr) (c0 : Nat) (l0 : List Int) (a1 : Int) (r : Int) (w : World) (s : Kd.C (Kd.int .i64) w A0 l0.length l0) (t : l0.length <= c0) (h : FM.f k l0 a1 = some r) :
  Calls Tryz.prog 70 #[.slice A0 l0.length c0,.int .i64 a1] w fun e w' => e = .returned (.int .i64 r) ∧ Drawn0 w w' := by
 have u := ZA s;have ac := ZA t;clear s t;have H : (FM.l0 k l0 a1 (l0.length : Int) 0) = some r := h;clear h;have H' := ZA H;clear H;go_enter Tryz.func70,Tryz.ntmps70;go_wp2
 go_loopg [8] k (fun kq v8 w' => ∃ (d : Int),v8 = .int .i64 d ∧ Aside0 (FM.l0 kq l0 a1 (l0.length : Int) d = some r) ∧ Aside0 (kq <= k) ∧ Drawn0 w w')
 case atStart => exact ⟨(0),ZG,H',⟨Nat.le_refl _⟩,by repeat (first|exact Drawn0.refl _|apply Drawn0.step)⟩
 case round =>
  clear H';obtain ⟨d,rfl,HA,v,⟨m1,rfl⟩⟩ := hrel;cases gk with
  | zero => exact absurd HA.out (by simp [FM.l0])
  | succ k1 =>
   have H := HA.out;clear HA;simp only [FM.l0] at H;replace H := YI H;rcases H with ⟨o,H⟩|⟨o,H⟩;rotate_left
   ·obtain rfl := Option.some.inj H;go_wp2;go_ret;exact ⟨by first|rfl|(simp;done)|(simp [*];done),by repeat (first|exact Drawn0.refl _|apply Drawn0.step)⟩
   replace H := YN H;obtain ⟨aa,H⟩ := H;replace H := YN H;obtain ⟨ab,H⟩ := H;by_cases c6 : a1 = (rd l0 d)
   ·rw [if_pos c6] at H;have p : (a1 == (rd l0 d)) = true := beq_iff_eq.mpr c6;have q : (a1 != (rd l0 d)) = false := bne_eq_false_iff_eq.mpr c6;clear c6;obtain rfl := Option.some.inj H;have g : 0 <= (d : Int) := ZD;have i : d < (l0.length : Int) := ZD;obtain ⟨n,m,j⟩ := Kd.Ean u.out d g i;cases m;replace g := eq_true g;replace i := eq_true i;go_wp2;go_ret;exact ⟨by first|rfl|(simp;done)|(simp [*];done),by repeat (first|exact Drawn0.refl _|apply Drawn0.step)⟩
   rw [if_neg c6] at H;have p : (a1 == (rd l0 d)) = false := beq_eq_false_iff_ne.mpr c6;have q : (a1 != (rd l0 d)) = true := bne_iff_ne.mpr c6;have H' := ZA H;clear H;have g : 0 <= (d : Int) := ZD;have i : d < (l0.length : Int) := ZD;obtain ⟨n,m,j⟩ := Kd.Ean u.out d g i;cases m;replace g := eq_true g;replace i := eq_true i;go_wp2
   go_roundg k1
   case measure => have := v.out;omega
   case rel => exact ⟨(wrap64 (d + 1)),ZG,H',⟨by have := v.out;omega⟩,by repeat (first|exact Drawn0.refl _|apply Drawn0.step)⟩
def FN.f (k : Nat) (l0 : List Int) (a1 : Int) : Option (Bool) := (FM.f k l0 a1).bind fun d => (some (decide (d >= 0)))
set_option maxHeartbeats 3000000 in
set_option maxRecDepth 100000 in
theorem FN.calls (k : Nat) (A0 : Option Addr) (c0 : Nat) (l0 : List Int) (a1 : Int) (r : Bool) (w : World) (g : Kd.C (Kd.int .i64) w A0 l0.length l0) (i : l0.length <= c0) (h : FN.f k l0 a1 = some r) :
  Calls Tryz.prog 91 #[.slice A0 l0.length c0,.int .i64 a1] w fun e w' => e = .returned (.bool r) ∧ Drawn0 w w' := by
 have j := ZA g;have m := ZA i;clear g i;have H : ((FM.f k l0 a1).bind fun d => (some (decide (d >= 0)))) = some r := h;clear h;replace H := YJ H;obtain ⟨d,A3,H⟩ := H;obtain rfl := Option.some.inj H;go_enter Tryz.func91,Tryz.ntmps91
 go_wp2_with (first|((with_reducible refine YG 70 ?_);refine YC (some 7) Tryz.func70 #[.slice A0 l0.length c0,.int .i64 a1] (FM.calls k _ _ l0 a1 d _ (ZR j.out) m.out A3.out) ?_;rintro e w' ⟨rfl,⟨nd,rfl⟩⟩;refine ⟨_,rfl,?_⟩))
 go_ret;exact ⟨by first|rfl|(simp;done)|(simp [*];done),by repeat (first|exact Drawn0.refl _|apply Drawn0.step)⟩
def FO.f (l0 : List Int) : Option (List Int) := (some (([] : List Int) : List Int)).bind fun d => (if d.length + l0.length < 17592186044416 then (some (d ++ l0)) else (none))
set_option maxHeartbeats 3000000 in
set_option maxRecDepth 100000 in
theorem FO.calls (A0 : Option Addr) (c0 : Nat) (l0 : List Int) (r : List Int) (w : World) (s : Kd.C (Kd.int .i64) w A0 l0.length l0) (D : l0.length <= c0) (h : FO.f l0 = some r) :
  Calls Tryz.prog 110 #[.slice A0 l0.length c0] w fun e w' => ∃ E : Value,e = .returned (E) ∧ Kd.R (Kd.int .i64) 3 w' w.heap.size (fun _ => True) E r ∧ Below w.heap.size w w' := by
 cases A0 with
 | none =>
  obtain rfl : l0 = [] := by
   rcases Nat.eq_zero_or_pos l0.length with t | t
   ·exact List.eq_nil_of_length_eq_zero t
   obtain ⟨_,e_,_⟩ := s.2.2 t;cases e_
  have hr_ : r = [] := by simp [FO.f] at h;first|exact h|exact h.symm
  subst hr_;have u := Tryz.underlying28;have hq_ := fun (w : World) (n c n' c' : Nat) => Lib.run_eql_slice_nil (P := Tryz.prog) w 28 3 none n c n' c' u
  go_enter Tryz.func110,Tryz.ntmps110;go_wp2;go_ret;exact ⟨.slice none 0 0,rfl,Kd.Edv _ _ _ _ _,Below.refl _ _⟩
 | some ad0_ =>
  have hu_ := Tryz.underlying28;have hq_ := fun (w : World) (n c n' c' : Nat) => Lib.run_eql_slice_nil (P := Tryz.prog) w 28 3 (some ad0_) n c n' c' hu_
  have G := ZA s;have ab := ZA D;clear s D;have HB := ZA (Below.refl w.heap.size w);have H := h;clear h;unfold FO.f at H;obtain ⟨i,d⟩ : ∃ y_ : List Int,y_ = (([] : List Int)) := ⟨_,rfl⟩;replace H : (if i.length + l0.length < 17592186044416 then (some (i ++ l0)) else (none)) = some r := YH d H;have j := ZA d;clear d;replace H := YM H;obtain ⟨c2,H⟩ := H;have v := ZA c2;clear c2;obtain ⟨y,g⟩ : ∃ y_ : List Int,y_ = (i ++ l0) := ⟨_,rfl⟩;replace H : (some y) = some r := YH g H;have o := ZA g;clear g;obtain rfl := Option.some.inj H;go_enter Tryz.func110,Tryz.ntmps110
  go_wp2_with (first|((with_reducible refine Ead (N := 5) rfl ?_);refine Kd.Edj (Kd.int .i64) _ 3 ?hg (N := 5) ?hd (xs := ([] : List Int)) (inner := []) (ok := fun _ => True) (okp := fun _ => True) ?hr ?hp (fun _ hk => hk) trivial (Below.refl _ _) (Nat.le_refl _) (by simp) ?_;(case hd => rfl);(case hg => rfl);(case hr => first|(go_simp;done)|(go_simp;rfl));(case hp => exact (Reps.none _ _));intro z w3 p hb hg_ hnew_;clear hg_ hnew_;(first|rw [<- j.out] at p|(simp only [Int.reduceToNat] at p;rw [<- j.out] at p));have m := ZA (Kd.Eas p (SZ HB));replace HB := BS HB hb;clear hb p)|((with_reducible refine Eal (b := .append) (xs := #[.tmp 5,.tmp 6]) rfl ?_);at_builtin;refine Kd.Ebd (Kd.int .i64) (w0 := w) w.heap.size rfl (.tmp 5) (.tmp 6) 28 3 (.int .i64 0) 8 rfl Tryz.underlying28 info3 rfl (by decide) (by omega) z i l0 _ _ _ (fun _ => True) (fun _ => False) rfl rfl (ZK m) (ZR (Kd.Eab G.out HB.out)) (fun _ _ h => h) (fun _ h => h.elim) (fun _ _ => trivial) (ZQ HB) (SZ HB) ?aL ?_;(case aL => have := v.out;omega);intro aa w5 ho hb hg hat;rw [<- o.out] at ho;replace HB := ZA (hb);have q := ZA (ho);clear m;clear ho hb hg hat))
  go_ret;exact ⟨_,YR,ZK q,ZQ HB⟩
def Fj.sorted (l : List Int) : List Int := l.mergeSort fun x y => decide (x <= y)
def Fj.f (l0 : List Int) : Option (List Int) := (FO.f l0).bind fun l1 => some (Lib.compact (Fj.sorted l1))
set_option maxHeartbeats 1000000
open Lib Go.Sort
theorem Fj.nil_or {w : World} {base e n : Nat} {zs : List Int} (h : w.ownsRow base e 1 (.slice none 0 0) n (zs.map (Value.int .i64))) : zs = [] := by
 have hl : zs.length = n := by simpa using h.1
 rcases h.2 with ⟨_,h2⟩ | ⟨g,cap,cur,e0,_⟩
 ·exact List.eq_nil_of_length_eq_zero (by omega)
 cases e0
theorem Fj.sort (w : World) (base : Nat) (ok : Nat -> Prop) (v : Value) (l : List Int) (h : Kd.R (Kd.int .i64) 3 w base ok v l) (hl : l.length < 4611686018427387904) :
  Calls Tryz.prog 96 #[v] w fun e w' => e = .returned (.tuple #[]) ∧ Kd.R (Kd.int .i64) 3 w' base ok v (Fj.sorted l) ∧ ∀ B w0,B <= base -> Below B w0 w -> Below B w0 w' := by
 have ho : w.ownsRow base 3 1 v l.length (l.map (Value.int .i64)) := Kd.Efv h;by_cases hv : v = .slice none 0 0
 ·subst hv;obtain rfl := Fj.nil_or ho;refine (Tryz.slices_Sort_int_none none 0 w).mono ?_;rintro e w' ⟨rfl,rfl⟩;exact ⟨rfl,by simpa [Fj.sorted] using h,fun _ _ _ hb => hb⟩
 obtain ⟨g,cap,rfl,hb,hlt,hn,hm,_,hH⟩ := Lib.holds_of_ownsRow ho hv;refine (Tryz.slices_Sort_int g 0 cap l w hH hlt hl).mono ?_;rintro e w' ⟨rfl,n,os,rfl⟩;have hlen : (Fj.sorted l).length = l.length := by simp [Fj.sorted]
 have h1 := Lib.ownsRow_putRow (q := n) (k := l.length) (ys := Fj.sorted l) ho hlen (Nat.le_refl _);rw [List.take_of_length_le (by omega)] at h1;have hbel := below_grown (putRow (Value.int .i64) (Sort.ahead w n) g 0 (Fj.sorted l).toArray) 0 os;refine ⟨rfl,?_,?_⟩
 ·have h2 : Kd.R (Kd.int .i64) 3 (putRow (Value.int .i64) (Sort.ahead w n) g 0 (Fj.sorted l).toArray) base ok (.slice (some ⟨g,0,none⟩) l.length cap) (Fj.sorted l) := Kd.Eho (by rw [hlen];exact h1) h.1;exact Kd.Eem h2 hbel
 intro B w0 hB f;have hp := Lib.below_putRow (enc := Value.int .i64) (q := n) (d := (Fj.sorted l).toArray) f (Nat.le_trans hB hb);have hz : (putRow (Value.int .i64) (Sort.ahead w n) g 0 (Fj.sorted l).toArray).heap.size = w.heap.size := by simp [putRow,mapBlock,Sort.ahead]
 exact hp.trans (hbel.mono (by rw [hz];omega))
theorem Fj.comp (w : World) (base : Nat) (ok : Nat -> Prop) (v : Value) (l : List Int) (h : Kd.R (Kd.int .i64) 3 w base ok v l) (hl : l.length <= 9223372036854775807) :
  Calls Tryz.prog 148 #[v] w fun e w' => ∃ v1,e = .returned v1 ∧ Kd.R (Kd.int .i64) 3 w' base ok v1 (Lib.compact l) ∧ ∀ B w0,B <= base -> Below B w0 w -> Below B w0 w' := by
 have ho : w.ownsRow base 3 1 v l.length (l.map (Value.int .i64)) := Kd.Efv h;by_cases hv : v = .slice none 0 0
 ·subst hv;obtain rfl := Fj.nil_or ho;refine (Tryz.slices_Compact_int_empty none 0 w).mono ?_;rintro e w' ⟨rfl,rfl⟩;exact ⟨_,rfl,h,fun _ _ _ hb => hb⟩
 obtain ⟨g,cap,rfl,hb,hlt,hn,hm,_,hH⟩ := Lib.holds_of_ownsRow ho hv;refine (Tryz.slices_Compact_int g 0 cap l w hH hl hn).mono ?_;rintro e w' ⟨rfl,q,rfl⟩;have hlen : (Lib.compact l).length <= l.length := Lib.compact_length_le l;have h1 := Lib.ownsRow_putRow (q := q) (k := (Lib.compact l).length) (ys := Lib.compact l ++ List.replicate (l.length - (Lib.compact l).length) 0) ho (by simp;omega) hlen;rw [List.take_left] at h1;exact ⟨_,rfl,Kd.Eho h1 (fun k hk => h.1 k hk),fun B w0 hB d => Lib.below_putRow d (Nat.le_trans hB hb)⟩
set_option maxHeartbeats 1000000 in
theorem Fj.calls (A0 : Option Addr) (c0 : Nat) (l0 : List Int) (r : List Int) (w : World) (g : Kd.C (Kd.int .i64) w A0 l0.length l0) (n : l0.length <= c0) (h : Fj.f l0 = some r) :
  Calls Tryz.prog 100 #[.slice A0 l0.length c0] w fun e w' => ∃ d : Value,e = .returned d ∧ Kd.R (Kd.int .i64) 3 w' w.heap.size (fun _ => True) d r ∧ Below w.heap.size w w' := by
 unfold Fj.f at h;obtain ⟨l1,hc,h2⟩ := ZI h;obtain rfl := Option.some.inj h2;clear h h2;have i : l1.length < 17592186044416 := by
  unfold FO.f at hc;simp only [Option.bind_some,List.length_nil,Nat.zero_add,List.nil_append] at hc
  split at hc
  ·obtain rfl := Option.some.inj hc
   assumption
  cases hc
 have j : (Fj.sorted l1).length <= 9223372036854775807 := by simp [Fj.sorted];omega
 have HCL := ZA (FO.calls A0 c0 l0 l1 w g n hc);have HL := ZA i;have m := ZA j;clear g hc i j;generalize hg : Fj.sorted l1 = l2 at m ⊢;have HG := ZA hg;clear hg;go_enter Tryz.func100,Tryz.ntmps100
 go_wp2_with (first|(go_at_call 110;refine HCL.out.mono ?_;rintro e w1 ⟨d,rfl,ho,hb⟩;have HO := ZA ho;have HB := ZA hb;clear ho hb HCL)|(go_at_call 96;refine (Fj.sort _ _ _ _ _ (ZK HO) (Nat.lt_trans HL.out (by decide))).mono ?_;rintro e w2 ⟨rfl,ho,hb⟩;replace HO := ZA ho;replace HB := ZA (hb _ _ (Nat.le_refl _) (ZQ HB));clear ho hb)|(go_at_call 148;refine (Fj.comp _ _ _ _ _ (ZK HO) (by rw [HG.out];exact m.out)).mono ?_;rintro e w3 ⟨aa,rfl,ho,hb⟩;replace HO := ZA ho;replace HB := ZA (hb _ _ (Nat.le_refl _) (ZQ HB));clear ho hb))
 go_ret;exact ⟨_,rfl,by rw [<- HG.out];exact HO.out,HB.out⟩
def Fw.f (k : Nat) (g : Int) (d : List Int) : Option (Bool) := (FB.f (d.length : Int) 2 4).bind fun i => (if i = true then ((FP.f d 0 15).bind fun j => (if j = true then ((Fj.f d).bind fun m => (if (m.length : Int) = (d.length : Int) then ((FN.f k d g).bind fun n => (some n)) else (some false))) else (some false))) else (some false))
def Fw.T1 : Bool × List (List Nat × List Nat) := (true,[([],[]),([0],[0]),([1],[1]),([2],[2]),([3,3],[3]),([4],[4]),([5,4],[4,5]),([6,4,4],[4,6]),([4,7],[4,7]),([8,7],[8]),([9],[9]),([10,9],[9,10]),([11,9,9],[9,11]),([12,9],[9,12]),([9],[9]),([14,9],[9,14]),([15,9],[9,15]),([13,16,9],[9,13,16]),([9,17],[9,17]),([18,12],[18]),([19],[19]),([20,19],[19,20]),([19],[19]),([22,19],[19,22]),([21,23,19,19],[19,21,23]),([19,24],[19,24]),([25,24,0,1,2,3,4,5,6,7,8,9,10,11,12,13,14,15,16,17,18,19,20,21,22,23,24,25],[25])])
def Fw.B1 : List Nat := [0,1,3,7,15,31,63,127,255,511,1023,2047,4095,8191,1023,17407,50175,131071,262143,524287,1048575,2097151,1048575,5242879,16777215,33554431,67108863]
theorem Fw.tab1 : rtab .any (opsOf Tryz.f68 1) = Fw.T1 := by kernel_rfl
theorem Fw.bits1 : Ecc Fw.T1.2 Fw.B1 = true := by kernel_rfl
set_option maxHeartbeats 3000000 in
set_option maxRecDepth 100000 in
theorem Fw.calls (k : Nat) (o : Int) (j : Option Addr) (m : Nat) (g : List Int) (r : Bool) (w : World) (y : Kd.C (Kd.int .i64) w j g.length g) (z : g.length <= m) (h : Fw.f k o g = some r) :
  Calls Tryz.prog 68 #[.agg #[.int .i64 o,.slice j g.length m]] w fun e w' => e = .returned (.bool r) ∧ Below w.heap.size w w' := by
 have aa := Tryz.underlying30;have p := ZA y;have q := ZA z;clear y z;have HB := ZA (Below.refl w.heap.size w);have H := h;clear h;unfold Fw.f at H;replace H := YJ H;obtain ⟨ab,A2,H⟩ := H;replace H := YF H;rcases H with ⟨rfl,H⟩|⟨rfl,H⟩;rotate_left
 ·obtain rfl := Option.some.inj H;go_enter Tryz.func68,Tryz.ntmps68
  try go_wp2_with (first|((with_reducible refine Ead (N := 1) rfl ?_);(try (refine Eau (by rfl) ?_;dsimp only));refine ZE 1 #[.int .i64 o,.slice j g.length m] 30 ?_;intro i hg Z hbox hb;have d := ZA (hbox);have t := YQ hg HB;have u := YQ hg HB;replace HB := BS HB hb;clear hb hbox hg))
  replace d := ZA (Ear d.out);replace HB := ZA (Eaf HB.out);refine Ebe (n := 27) (S := fun w' => w'.cell? ⟨i,0,none⟩ = some (.int .i64 o) ∧ w'.cell? ⟨i,1,none⟩ = some (.slice j g.length m)) (ds := []) (ZL 27 0) (by kernel_rfl) rfl rfl ⟨ZC d 0 rfl,ZC d 1 rfl⟩ (fun hHeld => ?_);refine Eat Fw.tab1 Fw.bits1 (fun HT_ HW_ => ?_);generalize Z.drew = aj at d HB hHeld ⊢;refine YP 0 3 (ZL 27 1) rfl rfl HT_ ?_;refine YT 1 4 (ZL 27 3) rfl rfl HT_ HW_ hHeld ?_;refine YP 2 5 (ZL 27 7) rfl rfl HT_ ?_;refine ZO 3 6 (ZL 27 15) rfl rfl HT_ fun K hK => ?_
  refine YS Tryz.func62 #[.int .i64 (g.length : Int),.int .i64 2,.int .i64 4] ?_
  with_reducible refine (FB.calls (g.length : Int) 2 4 false _ A2.out).mono ?_
  rintro e w' ⟨rfl,⟨nd,rfl⟩⟩;refine ⟨_,rfl,?_⟩;refine hK.out _ _ ⟨ZC d 0 rfl,ZC d 1 rfl⟩ (fun hHeld => ?_);clear hK K;refine YZ (some 6) ?_;refine YP 4 7 (ZL 27 31) rfl rfl HT_ ?_;refine YU 5 8 (ZL 27 63) rfl rfl HT_ ?_;refine YU 6 9 (ZL 27 127) rfl rfl HT_ ?_;refine YU 7 10 (ZL 27 255) rfl rfl HT_ ?_;refine YP 8 11 (ZL 27 511) rfl rfl HT_ ?_;refine YP 9 12 (ZL 27 1023) rfl rfl HT_ ?_;refine YU 10 13 (ZL 27 2047) rfl rfl HT_ ?_;refine YU 11 14 (ZL 27 4095) rfl rfl HT_ ?_;refine YU 12 15 (ZL 27 8191) rfl rfl HT_ ?_;refine YU 13 16 (ZL 27 16383) rfl rfl HT_ ?_;refine YU 14 17 (ZL 27 32767) rfl rfl HT_ ?_;refine YU 15 18 (ZL 27 65535) rfl rfl HT_ ?_;refine YU 16 19 (ZL 27 131071) rfl rfl HT_ ?_;refine YU 17 20 (ZL 27 262143) rfl rfl HT_ ?_;refine YP 18 21 (ZL 27 524287) rfl rfl HT_ ?_;refine YP 19 22 (ZL 27 1048575) rfl rfl HT_ ?_;refine YU 20 23 (ZL 27 2097151) rfl rfl HT_ ?_;refine YU 21 24 (ZL 27 4194303) rfl rfl HT_ ?_;refine YU 22 25 (ZL 27 8388607) rfl rfl HT_ ?_;refine YU 23 26 (ZL 27 16777215) rfl rfl HT_ ?_;refine YU 24 27 (ZL 27 33554431) rfl rfl HT_ ?_;refine YP 25 28 (ZL 27 67108863) rfl rfl HT_ ?_;refine YP 26 2 (ZL 27 134217727) rfl rfl HT_ ?_;refine Ecb (Eb HT_.out (by kernel_rfl)) ?_
  try go_wp2
  go_ret;exact ⟨YR,ZQ HB⟩
 replace H := YJ H;obtain ⟨ac,A4,H⟩ := H;replace H := YF H;rcases H with ⟨rfl,H⟩|⟨rfl,H⟩;rotate_left
 ·obtain rfl := Option.some.inj H;go_enter Tryz.func68,Tryz.ntmps68
  try go_wp2_with (first|((with_reducible refine Ead (N := 1) rfl ?_);(try (refine Eau (by rfl) ?_;dsimp only));refine ZE 1 #[.int .i64 o,.slice j g.length m] 30 ?_;intro i hg ad hbox hb;have d := ZA (hbox);have t := YQ hg HB;have u := YQ hg HB;replace HB := BS HB hb;clear hb hbox hg))
  replace d := ZA (Ear d.out);replace HB := ZA (Eaf HB.out);refine Ebe (n := 27) (S := fun w' => w'.cell? ⟨i,0,none⟩ = some (.int .i64 o) ∧ w'.cell? ⟨i,1,none⟩ = some (.slice j g.length m)) (ds := []) (ZL 27 0) (by kernel_rfl) rfl rfl ⟨ZC d 0 rfl,ZC d 1 rfl⟩ (fun hHeld => ?_);refine Eat Fw.tab1 Fw.bits1 (fun HT_ HW_ => ?_);generalize ad.drew = ak at d HB hHeld ⊢;refine YP 0 3 (ZL 27 1) rfl rfl HT_ ?_;refine YT 1 4 (ZL 27 3) rfl rfl HT_ HW_ hHeld ?_;refine YP 2 5 (ZL 27 7) rfl rfl HT_ ?_;refine ZO 3 6 (ZL 27 15) rfl rfl HT_ fun K hK => ?_
  refine YS Tryz.func62 #[.int .i64 (g.length : Int),.int .i64 2,.int .i64 4] ?_
  with_reducible refine (FB.calls (g.length : Int) 2 4 true _ A2.out).mono ?_
  rintro e w' ⟨rfl,⟨nd,rfl⟩⟩;refine ⟨_,rfl,?_⟩;refine hK.out _ _ ⟨ZC d 0 rfl,ZC d 1 rfl⟩ (fun hHeld => ?_);clear hK K;refine YZ (some 6) ?_;refine YP 4 7 (ZL 27 31) rfl rfl HT_ ?_;refine YP 5 8 (ZL 27 63) rfl rfl HT_ ?_;refine YT 6 9 (ZL 27 127) rfl rfl HT_ HW_ hHeld ?_;refine ZO 7 10 (ZL 27 255) rfl rfl HT_ fun K hK => ?_
  refine YS Tryz.func74 #[.slice j g.length m,.int .i64 0,.int .i64 15] ?_
  with_reducible refine (FP.calls _ _ g 0 15 false _ (ZR (Kd.Eab p.out (ZQ HB))) q.out A4.out).mono ?_
  rintro e al ⟨rfl,hb⟩;refine ⟨_,rfl,?_⟩;replace d := ZA (Eac (ZH d) hb);replace HB := BS HB hb;refine hK.out _ _ ⟨ZC d 0 rfl,ZC d 1 rfl⟩ (fun hHeld => ?_);clear hK K;refine YZ (some 10) ?_;refine YP 8 11 (ZL 27 511) rfl rfl HT_ ?_;refine YP 9 12 (ZL 27 1023) rfl rfl HT_ ?_;refine YU 10 13 (ZL 27 2047) rfl rfl HT_ ?_;refine YU 11 14 (ZL 27 4095) rfl rfl HT_ ?_;refine YU 12 15 (ZL 27 8191) rfl rfl HT_ ?_;refine YU 13 16 (ZL 27 16383) rfl rfl HT_ ?_;refine YU 14 17 (ZL 27 32767) rfl rfl HT_ ?_;refine YU 15 18 (ZL 27 65535) rfl rfl HT_ ?_;refine YU 16 19 (ZL 27 131071) rfl rfl HT_ ?_;refine YU 17 20 (ZL 27 262143) rfl rfl HT_ ?_;refine YP 18 21 (ZL 27 524287) rfl rfl HT_ ?_;refine YP 19 22 (ZL 27 1048575) rfl rfl HT_ ?_;refine YU 20 23 (ZL 27 2097151) rfl rfl HT_ ?_;refine YU 21 24 (ZL 27 4194303) rfl rfl HT_ ?_;refine YU 22 25 (ZL 27 8388607) rfl rfl HT_ ?_;refine YU 23 26 (ZL 27 16777215) rfl rfl HT_ ?_;refine YU 24 27 (ZL 27 33554431) rfl rfl HT_ ?_;refine YP 25 28 (ZL 27 67108863) rfl rfl HT_ ?_;refine YP 26 2 (ZL 27 134217727) rfl rfl HT_ ?_;refine Ecb (Eb HT_.out (by kernel_rfl)) ?_
  try go_wp2
  go_ret;exact ⟨YR,ZQ HB⟩
 replace H := YJ H;obtain ⟨s,A6,H⟩ := H;by_cases c7 : (s.length : Int) = (g.length : Int);rotate_left
 ·rw [if_neg c7] at H;have G : ((s.length : Int) == (g.length : Int)) = false := beq_eq_false_iff_ne.mpr c7;have I : ((s.length : Int) != (g.length : Int)) = true := bne_iff_ne.mpr c7;have J : (s.length == g.length) = false := by first|simpa using c7|(simp at c7 ⊢;omega)
  obtain rfl := Option.some.inj H;go_enter Tryz.func68,Tryz.ntmps68
  try go_wp2_with (first|((with_reducible refine Ead (N := 1) rfl ?_);(try (refine Eau (by rfl) ?_;dsimp only));refine ZE 1 #[.int .i64 o,.slice j g.length m] 30 ?_;intro i hg ae hbox hb;have d := ZA (hbox);have t := YQ hg HB;have u := YQ hg HB;replace HB := BS HB hb;clear hb hbox hg))
  replace d := ZA (Ear d.out);replace HB := ZA (Eaf HB.out);refine Ebe (n := 27) (S := fun w' => w'.cell? ⟨i,0,none⟩ = some (.int .i64 o) ∧ w'.cell? ⟨i,1,none⟩ = some (.slice j g.length m)) (ds := []) (ZL 27 0) (by kernel_rfl) rfl rfl ⟨ZC d 0 rfl,ZC d 1 rfl⟩ (fun hHeld => ?_);refine Eat Fw.tab1 Fw.bits1 (fun HT_ HW_ => ?_);generalize ae.drew = am at d HB hHeld ⊢;refine YP 0 3 (ZL 27 1) rfl rfl HT_ ?_;refine YT 1 4 (ZL 27 3) rfl rfl HT_ HW_ hHeld ?_;refine YP 2 5 (ZL 27 7) rfl rfl HT_ ?_;refine ZO 3 6 (ZL 27 15) rfl rfl HT_ fun K hK => ?_
  refine YS Tryz.func62 #[.int .i64 (g.length : Int),.int .i64 2,.int .i64 4] ?_
  with_reducible refine (FB.calls (g.length : Int) 2 4 true _ A2.out).mono ?_
  rintro e w' ⟨rfl,⟨nd,rfl⟩⟩;refine ⟨_,rfl,?_⟩;refine hK.out _ _ ⟨ZC d 0 rfl,ZC d 1 rfl⟩ (fun hHeld => ?_);clear hK K;refine YZ (some 6) ?_;refine YP 4 7 (ZL 27 31) rfl rfl HT_ ?_;refine YP 5 8 (ZL 27 63) rfl rfl HT_ ?_;refine YT 6 9 (ZL 27 127) rfl rfl HT_ HW_ hHeld ?_;refine ZO 7 10 (ZL 27 255) rfl rfl HT_ fun K hK => ?_
  refine YS Tryz.func74 #[.slice j g.length m,.int .i64 0,.int .i64 15] ?_
  with_reducible refine (FP.calls _ _ g 0 15 true _ (ZR (Kd.Eab p.out (ZQ HB))) q.out A4.out).mono ?_
  rintro e an ⟨rfl,hb⟩;refine ⟨_,rfl,?_⟩;replace d := ZA (Eac (ZH d) hb);replace HB := BS HB hb;refine hK.out _ _ ⟨ZC d 0 rfl,ZC d 1 rfl⟩ (fun hHeld => ?_);clear hK K;refine YZ (some 10) ?_;refine YP 8 11 (ZL 27 511) rfl rfl HT_ ?_;refine YP 9 12 (ZL 27 1023) rfl rfl HT_ ?_;refine YP 10 13 (ZL 27 2047) rfl rfl HT_ ?_;refine YP 14 17 (ZL 27 18431) rfl rfl HT_ ?_;refine YT 11 14 (ZL 27 20479) rfl rfl HT_ HW_ hHeld ?_;refine YT 15 18 (ZL 27 53247) rfl rfl HT_ HW_ hHeld ?_;refine YP 16 19 (ZL 27 118783) rfl rfl HT_ ?_;refine ZO 12 15 (ZL 27 122879) rfl rfl HT_ fun K hK => ?_
  refine YS Tryz.func100 #[.slice j g.length m] ?_
  with_reducible refine (Fj.calls _ _ g s _ (ZR (Kd.Eab p.out HB.out)) q.out A6.out).mono ?_
  rintro e ao ⟨M,rfl,U,hb⟩;refine ⟨_,rfl,?_⟩;have v := ZA (Kd.Eas U (SZ HB));replace d := ZA (Eac (ZH d) hb);replace HB := BS HB hb;obtain ⟨af,ag,D⟩ := Kd.Eaj v.out
  (first|subst D|(injection D with f1_ f2_ f3_;have V := f1_.symm;have X := f3_.symm;clear f1_ f2_ f3_;subst V;subst X))
  refine hK.out _ _ ⟨ZC d 0 rfl,ZC d 1 rfl⟩ (fun hHeld => ?_);clear hK K;refine YZ (some 15) ?_;refine YP 13 16 (ZL 27 131071) rfl rfl HT_ ?_;refine YP 17 20 (ZL 27 262143) rfl rfl HT_ ?_;refine YP 18 21 (ZL 27 524287) rfl rfl HT_ ?_;refine YP 19 22 (ZL 27 1048575) rfl rfl HT_ ?_;refine YU 20 23 (ZL 27 2097151) rfl rfl HT_ ?_;refine YU 21 24 (ZL 27 4194303) rfl rfl HT_ ?_;refine YU 22 25 (ZL 27 8388607) rfl rfl HT_ ?_;refine YU 23 26 (ZL 27 16777215) rfl rfl HT_ ?_;refine YU 24 27 (ZL 27 33554431) rfl rfl HT_ ?_;refine YP 25 28 (ZL 27 67108863) rfl rfl HT_ ?_;refine YP 26 2 (ZL 27 134217727) rfl rfl HT_ ?_;refine Ecb (Eb HT_.out (by kernel_rfl)) ?_
  try go_wp2
  go_ret;exact ⟨YR,ZQ HB⟩
 rw [if_pos c7] at H;have G : ((s.length : Int) == (g.length : Int)) = true := beq_iff_eq.mpr c7;have I : ((s.length : Int) != (g.length : Int)) = false := bne_eq_false_iff_eq.mpr c7;have J : (s.length == g.length) = true := by first|simpa using c7|(simp at c7 ⊢;omega)
 clear c7;replace H := YJ H;obtain ⟨Y,A8,H⟩ := H;obtain rfl := Option.some.inj H;go_enter Tryz.func68,Tryz.ntmps68
 try go_wp2_with (first|((with_reducible refine Ead (N := 1) rfl ?_);(try (refine Eau (by rfl) ?_;dsimp only));refine ZE 1 #[.int .i64 o,.slice j g.length m] 30 ?_;intro i hg w9 hbox hb;have d := ZA (hbox);have t := YQ hg HB;have u := YQ hg HB;replace HB := BS HB hb;clear hb hbox hg))
 replace d := ZA (Ear d.out);replace HB := ZA (Eaf HB.out);refine Ebe (n := 27) (S := fun w' => w'.cell? ⟨i,0,none⟩ = some (.int .i64 o) ∧ w'.cell? ⟨i,1,none⟩ = some (.slice j g.length m)) (ds := []) (ZL 27 0) (by kernel_rfl) rfl rfl ⟨ZC d 0 rfl,ZC d 1 rfl⟩ (fun hHeld => ?_);refine Eat Fw.tab1 Fw.bits1 (fun HT_ HW_ => ?_);generalize w9.drew = ap at d HB hHeld ⊢;refine YP 0 3 (ZL 27 1) rfl rfl HT_ ?_;refine YT 1 4 (ZL 27 3) rfl rfl HT_ HW_ hHeld ?_;refine YP 2 5 (ZL 27 7) rfl rfl HT_ ?_;refine ZO 3 6 (ZL 27 15) rfl rfl HT_ fun K hK => ?_
 refine YS Tryz.func62 #[.int .i64 (g.length : Int),.int .i64 2,.int .i64 4] ?_
 with_reducible refine (FB.calls (g.length : Int) 2 4 true _ A2.out).mono ?_
 rintro e w' ⟨rfl,⟨nd,rfl⟩⟩;refine ⟨_,rfl,?_⟩;refine hK.out _ _ ⟨ZC d 0 rfl,ZC d 1 rfl⟩ (fun hHeld => ?_);clear hK K;refine YZ (some 6) ?_;refine YP 4 7 (ZL 27 31) rfl rfl HT_ ?_;refine YP 5 8 (ZL 27 63) rfl rfl HT_ ?_;refine YT 6 9 (ZL 27 127) rfl rfl HT_ HW_ hHeld ?_;refine ZO 7 10 (ZL 27 255) rfl rfl HT_ fun K hK => ?_
 refine YS Tryz.func74 #[.slice j g.length m,.int .i64 0,.int .i64 15] ?_
 with_reducible refine (FP.calls _ _ g 0 15 true _ (ZR (Kd.Eab p.out (ZQ HB))) q.out A4.out).mono ?_
 rintro e aq ⟨rfl,hb⟩;refine ⟨_,rfl,?_⟩;replace d := ZA (Eac (ZH d) hb);replace HB := BS HB hb;refine hK.out _ _ ⟨ZC d 0 rfl,ZC d 1 rfl⟩ (fun hHeld => ?_);clear hK K;refine YZ (some 10) ?_;refine YP 8 11 (ZL 27 511) rfl rfl HT_ ?_;refine YP 9 12 (ZL 27 1023) rfl rfl HT_ ?_;refine YP 10 13 (ZL 27 2047) rfl rfl HT_ ?_;refine YP 14 17 (ZL 27 18431) rfl rfl HT_ ?_;refine YT 11 14 (ZL 27 20479) rfl rfl HT_ HW_ hHeld ?_;refine YT 15 18 (ZL 27 53247) rfl rfl HT_ HW_ hHeld ?_;refine YP 16 19 (ZL 27 118783) rfl rfl HT_ ?_;refine ZO 12 15 (ZL 27 122879) rfl rfl HT_ fun K hK => ?_
 refine YS Tryz.func100 #[.slice j g.length m] ?_
 with_reducible refine (Fj.calls _ _ g s _ (ZR (Kd.Eab p.out HB.out)) q.out A6.out).mono ?_
 rintro e ar ⟨M,rfl,U,hb⟩;refine ⟨_,rfl,?_⟩;have v := ZA (Kd.Eas U (SZ HB));replace d := ZA (Eac (ZH d) hb);replace HB := BS HB hb;obtain ⟨ah,ai,E⟩ := Kd.Eaj v.out
 (first|subst E|(injection E with f1_ f2_ f3_;have V := f1_.symm;have X := f3_.symm;clear f1_ f2_ f3_;subst V;subst X))
 refine hK.out _ _ ⟨ZC d 0 rfl,ZC d 1 rfl⟩ (fun hHeld => ?_);clear hK K;refine YZ (some 15) ?_;refine YP 13 16 (ZL 27 131071) rfl rfl HT_ ?_;refine YP 17 20 (ZL 27 262143) rfl rfl HT_ ?_;refine YP 18 21 (ZL 27 524287) rfl rfl HT_ ?_;refine YP 19 22 (ZL 27 1048575) rfl rfl HT_ ?_;refine YP 20 23 (ZL 27 2097151) rfl rfl HT_ ?_;refine YP 22 25 (ZL 27 6291455) rfl rfl HT_ ?_;refine YT 21 24 (ZL 27 8388607) rfl rfl HT_ HW_ hHeld ?_;refine YT 23 26 (ZL 27 16777215) rfl rfl HT_ HW_ hHeld ?_;refine ZO 24 27 (ZL 27 33554431) rfl rfl HT_ fun K hK => ?_
 refine YS Tryz.func91 #[.slice j g.length m,.int .i64 o] ?_
 with_reducible refine (FN.calls k _ _ g o Y _ (ZR (Kd.Eab p.out HB.out)) q.out A8.out).mono ?_
 rintro e w' ⟨rfl,⟨nd,rfl⟩⟩;refine ⟨_,rfl,?_⟩;refine hK.out _ _ ⟨ZC d 0 rfl,ZC d 1 rfl⟩ (fun hHeld => ?_);clear hK K;refine YZ (some 27) ?_;refine YP 25 28 (ZL 27 67108863) rfl rfl HT_ ?_;refine YP 26 2 (ZL 27 134217727) rfl rfl HT_ ?_;refine Ecb (Eb HT_.out (by kernel_rfl)) ?_
 try go_wp2
 go_ret;exact ⟨YR,ZQ HB⟩
def GP.f (k : Nat) (d : Int) (g : List Int) : Option (Int × Bool) := (Fw.f k d g).bind fun i => (if i = true then ((FM.f k g d).bind fun j => (some (j,true))) else (some (0,false)))
set_option maxHeartbeats 3000000 in
set_option maxRecDepth 100000 in
theorem GP.calls (k : Nat) (i : Int) (m : Option Addr) (n : Nat) (g : List Int) (r1 : Int) (r2 : Bool) (w : World) (q : Kd.C (Kd.int .i64) w m g.length g) (s : g.length <= n) (h : GP.f k i g = some (r1,r2)) :
  Calls Tryz.prog 12 #[.agg #[.int .i64 i,.slice m g.length n]] w fun e w' => e = .returned (.tuple #[.int .i64 r1,.bool r2]) ∧ Below w.heap.size w w' := by
 have am := Tryz.underlying30;have o := ZA q;have p := ZA s;clear q s;have HB := ZA (Below.refl w.heap.size w);have H := h;clear h;unfold GP.f at H;replace H := YJ H;obtain ⟨an,A2,H⟩ := H;replace H := YF H;rcases H with ⟨rfl,H⟩|⟨rfl,H⟩;rotate_left
 ·simp only [Option.some.injEq,Prod.mk.injEq] at H;obtain ⟨rfl,rfl⟩ := H;go_enter Tryz.func12,Tryz.ntmps12
  go_wp2_with (first|((with_reducible refine Ead (N := 1) rfl ?_);refine ZE 1 #[.int .i64 i,.slice m g.length n] 30 ?_;intro j hg w9 hbox hb;have d := ZA (hbox);have t := YQ hg HB;have u := YQ hg HB;replace HB := BS HB hb;clear hb hbox hg;have aa : w9.cell? ⟨j,0,none⟩ = some (.int .i64 i) := ZC d 0 rfl;have ab : w9.cell? ⟨j,1,none⟩ = some (.slice m g.length n) := ZC d 1 rfl;have ac := Ea d.out 0;have ad := Ea d.out 1)|((with_reducible refine Eaz (f := 68) rfl ?_);refine Ed (some 5) rfl rfl Tryz.func68 (by kernel_rfl) rfl #[.agg #[.int .i64 i,.slice m g.length n]] rfl (by (try simp only [List.map_toArray,List.map_cons,List.map_nil]);first|done|rfl|(simp only [List.length_drop,List.length_take];rfl)) ?_;(with_reducible refine (Fw.calls k i _ _ g false _ (ZR (Kd.Eab o.out HB.out)) p.out A2.out).mono ?_);rintro e ao ⟨rfl,hb⟩;refine ⟨_,rfl,?_⟩;replace d := ZA (Eac (ZH d) hb);replace HB := BS HB hb))
  go_ret2;exact ⟨YR,ZQ HB⟩
 replace H := YJ H;obtain ⟨v,A4,H⟩ := H;simp only [Option.some.injEq,Prod.mk.injEq] at H;obtain ⟨rfl,rfl⟩ := H;go_enter Tryz.func12,Tryz.ntmps12
 go_wp2_with (first|((with_reducible refine Ead (N := 1) rfl ?_);refine ZE 1 #[.int .i64 i,.slice m g.length n] 30 ?_;intro j hg w5 hbox hb;have d := ZA (hbox);have t := YQ hg HB;have u := YQ hg HB;replace HB := BS HB hb;clear hb hbox hg;have ae : w5.cell? ⟨j,0,none⟩ = some (.int .i64 i) := ZC d 0 rfl;have af : w5.cell? ⟨j,1,none⟩ = some (.slice m g.length n) := ZC d 1 rfl;have ag := Ea d.out 0;have ah := Ea d.out 1)|((with_reducible refine Eaz (f := 68) rfl ?_);refine Ed (some 5) rfl rfl Tryz.func68 (by kernel_rfl) rfl #[.agg #[.int .i64 i,.slice m g.length n]] rfl (by (try simp only [List.map_toArray,List.map_cons,List.map_nil]);first|done|rfl|(simp only [List.length_drop,List.length_take];rfl)) ?_;(with_reducible refine (Fw.calls k i _ _ g true _ (ZR (Kd.Eab o.out HB.out)) p.out A2.out).mono ?_);rintro e w7 ⟨rfl,hb⟩;refine ⟨_,rfl,?_⟩;replace d := ZA (Eac (ZH d) hb);replace HB := BS HB hb;have ai : w7.cell? ⟨j,0,none⟩ = some (.int .i64 i) := ZC d 0 rfl;have aj : w7.cell? ⟨j,1,none⟩ = some (.slice m g.length n) := ZC d 1 rfl;have ak := Ea d.out 0;have al := Ea d.out 1)|((with_reducible refine YG 70 ?_);refine YC (some 11) Tryz.func70 #[.slice m g.length n,.int .i64 i] (FM.calls k _ _ g i v _ (ZR (Kd.Eab o.out HB.out)) p.out A4.out) ?_;rintro e w' ⟨rfl,⟨nd,rfl⟩⟩;refine ⟨_,rfl,?_⟩))
 go_ret2;exact ⟨YR,ZQ HB⟩
def GU.f (a0 : ByteArray) (a1 : Int) : Option (Int) := some (Lib.indexByte a0.data.toList a1.toNat.toUInt8)
theorem GU.calls (a0 : ByteArray) (a1 : Int) (r : Int) (w : World) (h : GU.f a0 a1 = some r) :
  Calls Tryz.prog 194 #[.string a0,.int .u8 a1] w fun e w' => e = .returned (.int .i64 r) ∧ Drawn0 w w' := by
 obtain rfl := Option.some.inj h;refine (Tryz.strings_IndexByte a0 a1 w).mono ?_;rintro e w' ⟨rfl,rfl⟩;exact ⟨rfl,Drawn0.refl _⟩
def GF.l0 : Nat -> ByteArray -> ByteArray -> Int -> Int -> Option (Bool)
 | 0,_,_,_,_ => none
 | k + 1,x0,x1,x7,x8 => if x8 < x7 then (if 0 <= x8 then (if x8 < (x0.size : Int) then ((GU.f x1 (bt x0 x8)).bind fun d => (if d < 0 then (some false) else (GF.l0 k x0 x1 x7 (wrap64 (x8 + 1))))) else (none)) else (none)) else (some true)
def GF.f (k : Nat) (a0 : ByteArray) (a1 : ByteArray) : Option (Bool) := GF.l0 k a0 a1 (a0.size : Int) 0
set_option maxHeartbeats 3000000 in
set_option maxRecDepth 100000 in
theorem GF.calls (k : Nat) (a0 : ByteArray) (a1 : ByteArray) (r : Bool) (w : World) (h : GF.f k a0 a1 = some r) :
  Calls Tryz.prog 182 #[.string a0,.string a1] w fun e w' => e = .returned (.bool r) ∧ Drawn0 w w' := by
 have H : (GF.l0 k a0 a1 (a0.size : Int) 0) = some r := h;clear h;have H' := ZA H;clear H;go_enter Tryz.func182,Tryz.ntmps182;go_wp2
 go_loopg [8] k (fun kq v8 w' => ∃ (d : Int),v8 = .int .i64 d ∧ Aside0 (GF.l0 kq a0 a1 (a0.size : Int) d = some r) ∧ Aside0 (kq <= k) ∧ Drawn0 w w')
 case atStart => exact ⟨(0),ZG,H',⟨Nat.le_refl _⟩,by repeat (first|exact Drawn0.refl _|apply Drawn0.step)⟩
 case round =>
  clear H';obtain ⟨d,rfl,HA,m,⟨m1,rfl⟩⟩ := hrel;cases gk with
  | zero => exact absurd HA.out (by simp [GF.l0])
  | succ k1 =>
   have H := HA.out;clear HA;simp only [GF.l0] at H;replace H := YI H;rcases H with ⟨i,H⟩|⟨i,H⟩;rotate_left
   ·obtain rfl := Option.some.inj H;go_wp2;go_ret;exact ⟨by first|rfl|(simp;done)|(simp [*];done),by repeat (first|exact Drawn0.refl _|apply Drawn0.step)⟩
   replace H := YN H;obtain ⟨aa,H⟩ := H;replace H := YN H;obtain ⟨ab,H⟩ := H;replace H := YJ H;obtain ⟨g,A7,H⟩ := H;by_cases c8 : g < 0
   ·rw [if_pos c8] at H;have j := decide_eq_true c8;clear c8;obtain rfl := Option.some.inj H;have p6 : 0 <= (d : Int) := ZD;have q6 : d < (a0.size : Int) := ZD;have n := Eip a0 d;replace p6 := eq_true p6;replace q6 := eq_true q6
    go_wp2_with (first|((with_reducible refine YG 194 ?_);refine YC (some 15) Tryz.func194 #[.string a1,.int .u8 (bt a0 d)] (GU.calls a1 (bt a0 d) g _ A7.out) ?_;rintro e w' ⟨rfl,⟨nd,rfl⟩⟩;refine ⟨_,rfl,?_⟩))
    go_ret;exact ⟨by first|rfl|(simp;done)|(simp [*];done),by repeat (first|exact Drawn0.refl _|apply Drawn0.step)⟩
   rw [if_neg c8] at H;have j := decide_eq_false c8;clear c8;have H' := ZA H;clear H;have p6 : 0 <= (d : Int) := ZD;have q6 : d < (a0.size : Int) := ZD;have n := Eip a0 d;replace p6 := eq_true p6;replace q6 := eq_true q6
   go_wp2_with (first|((with_reducible refine YG 194 ?_);refine YC (some 15) Tryz.func194 #[.string a1,.int .u8 (bt a0 d)] (GU.calls a1 (bt a0 d) g _ A7.out) ?_;rintro e w' ⟨rfl,⟨nd,rfl⟩⟩;refine ⟨_,rfl,?_⟩))
   go_roundg k1
   case measure => have := m.out;omega
   case rel => exact ⟨(wrap64 (d + 1)),ZG,H',⟨by have := m.out;omega⟩,by repeat (first|exact Drawn0.refl _|apply Drawn0.step)⟩
def Li.f (k : Nat) (a0 : ByteArray) (a1 : ByteArray) : Option (Bool) := (FB.f (a0.size : Int) 1 8).bind fun d => (if d = true then ((GF.f k a0 a1).bind fun g => (some g)) else (some false))
set_option maxHeartbeats 3000000 in
set_option maxRecDepth 100000 in
theorem Li.calls (k : Nat) (a0 : ByteArray) (a1 : ByteArray) (r : Bool) (w : World) (h : Li.f k a0 a1 = some r) :
  Calls Tryz.prog 157 #[.string a0,.string a1] w fun e w' => e = .returned (.bool r) ∧ Drawn0 w w' := by
 have H := h;clear h;unfold Li.f at H;replace H := YJ H;obtain ⟨aa,A3,H⟩ := H;replace H := YF H;rcases H with ⟨rfl,H⟩|⟨rfl,H⟩;rotate_left
 ·obtain rfl := Option.some.inj H;go_enter Tryz.func157,Tryz.ntmps157
  go_wp2_with (first|((with_reducible refine YG 62 ?_);refine YC (some 7) Tryz.func62 #[.int .i64 (a0.size : Int),.int .i64 1,.int .i64 8] (FB.calls (a0.size : Int) 1 8 false _ A3.out) ?_;rintro e w' ⟨rfl,⟨nd,rfl⟩⟩;refine ⟨_,rfl,?_⟩))
  go_ret;exact ⟨by first|rfl|(simp;done)|(simp [*];done),by repeat (first|exact Drawn0.refl _|apply Drawn0.step)⟩
 replace H := YJ H;obtain ⟨d,A5,H⟩ := H;obtain rfl := Option.some.inj H;go_enter Tryz.func157,Tryz.ntmps157
 go_wp2_with (first|((with_reducible refine YG 62 ?_);refine YC (some 7) Tryz.func62 #[.int .i64 (a0.size : Int),.int .i64 1,.int .i64 8] (FB.calls (a0.size : Int) 1 8 true _ A3.out) ?_;rintro e w' ⟨rfl,⟨nd,rfl⟩⟩;refine ⟨_,rfl,?_⟩)|(go_at_call 182;(with_reducible refine (GF.calls k a0 a1 d _ A5.out).mono ?_);rintro e w' ⟨rfl,⟨nd,rfl⟩⟩))
 go_ret;exact ⟨by first|rfl|(simp;done)|(simp [*];done),by repeat (first|exact Drawn0.refl _|apply Drawn0.step)⟩
def GZ.f (k : Nat) (a0 : ByteArray) : Option (Bool) := (Li.f k a0 (⟨#[65,66,67,68,69,70,71,72,73,74,75,76,77,78,79,80,81,82,83,84,85,86,87,88,89,90]⟩ : ByteArray)).bind fun d => (some d)
set_option maxHeartbeats 3000000 in
set_option maxRecDepth 100000 in
theorem GZ.calls (k : Nat) (a0 : ByteArray) (r : Bool) (w : World) (h : GZ.f k a0 = some r) :
  Calls Tryz.prog 127 #[.string a0] w fun e w' => e = .returned (.bool r) ∧ Drawn0 w w' := by
 have H := h;clear h;unfold GZ.f at H;replace H := YJ H;obtain ⟨d,A2,H⟩ := H;obtain rfl := Option.some.inj H;go_enter Tryz.func127,Tryz.ntmps127
 go_wp2_with (first|((with_reducible refine Eaz (f := 157) rfl ?_);refine Ed (some 4) rfl rfl Tryz.func157 (by kernel_rfl) rfl #[.string a0,.string (⟨#[65,66,67,68,69,70,71,72,73,74,75,76,77,78,79,80,81,82,83,84,85,86,87,88,89,90]⟩ : ByteArray)] rfl (by (try simp only [List.map_toArray,List.map_cons,List.map_nil]);first|done|rfl|(simp only [List.length_drop,List.length_take];rfl)) ?_;(with_reducible refine (Li.calls k a0 (⟨#[65,66,67,68,69,70,71,72,73,74,75,76,77,78,79,80,81,82,83,84,85,86,87,88,89,90]⟩ : ByteArray) d _ A2.out).mono ?_);rintro e w' ⟨rfl,⟨nd,rfl⟩⟩;refine ⟨_,rfl,?_⟩))
 go_ret;exact ⟨by first|rfl|(simp;done)|(simp [*];done),by repeat (first|exact Drawn0.refl _|apply Drawn0.step)⟩
def GS.f (a0 : Int) : Option (Bool) := some (a0 != a0)
set_option maxHeartbeats 3000000 in
set_option maxRecDepth 100000 in
theorem GS.calls (a0 : Int) (r : Bool) (w : World) (h : GS.f a0 = some r) :
  Calls Tryz.prog 183 #[.int .i64 a0] w fun e w' => e = .returned (.bool r) ∧ Drawn0 w w' := by
 have H : (some (a0 != a0)) = some r := h;clear h;obtain rfl := Option.some.inj H;go_enter Tryz.func183,Tryz.ntmps183;go_wp2;go_ret;exact ⟨by first|rfl|(simp;done)|(simp [*];done),by repeat (first|exact Drawn0.refl _|apply Drawn0.step)⟩
def GN.f (a0 : Int) (a1 : Int) : Option (Bool) := (GS.f a0).bind fun d => (if d = true then ((GS.f a1).bind fun g => (if g = true then (some (decide (a0 < a1))) else (some true))) else (some (decide (a0 < a1))))
set_option maxHeartbeats 3000000 in
set_option maxRecDepth 100000 in
theorem GN.calls (a0 : Int) (a1 : Int) (r : Bool) (w : World) (h : GN.f a0 a1 = some r) :
  Calls Tryz.prog 158 #[.int .i64 a0,.int .i64 a1] w fun e w' => e = .returned (.bool r) ∧ Drawn0 w w' := by
 have H := h;clear h;unfold GN.f at H;replace H := YJ H;obtain ⟨aa,A3,H⟩ := H;replace H := YF H;rcases H with ⟨rfl,H⟩|⟨rfl,H⟩;rotate_left
 ·obtain rfl := Option.some.inj H;go_enter Tryz.func158,Tryz.ntmps158
  go_wp2_with (first|((with_reducible refine YG 183 ?_);refine YC (some 6) Tryz.func183 #[.int .i64 a0] (GS.calls a0 false _ A3.out) ?_;rintro e w' ⟨rfl,⟨nd,rfl⟩⟩;refine ⟨_,rfl,?_⟩))
  go_ret;exact ⟨by first|rfl|(simp;done)|(simp [*];done),by repeat (first|exact Drawn0.refl _|apply Drawn0.step)⟩
 replace H := YJ H;obtain ⟨d,A5,H⟩ := H;by_cases c6 : d = true
 ·subst c6;rw [if_pos rfl] at H;obtain rfl := Option.some.inj H;go_enter Tryz.func158,Tryz.ntmps158
  go_wp2_with (first|((with_reducible refine YG 183 ?_);refine YC (some 6) Tryz.func183 #[.int .i64 a0] (GS.calls a0 true _ A3.out) ?_;rintro e w' ⟨rfl,⟨nd,rfl⟩⟩;refine ⟨_,rfl,?_⟩)|(go_at_call 183;(with_reducible refine (GS.calls a1 true _ A5.out).mono ?_);rintro e w' ⟨rfl,⟨nd,rfl⟩⟩))
  go_ret;exact ⟨by first|rfl|(simp;done)|(simp [*];done),by repeat (first|exact Drawn0.refl _|apply Drawn0.step)⟩
 replace c6 := Bool.eq_false_iff.mpr c6;subst c6;rw [if_neg (show ¬ (false = true) by decide)] at H;obtain rfl := Option.some.inj H;go_enter Tryz.func158,Tryz.ntmps158
 go_wp2_with (first|((with_reducible refine YG 183 ?_);refine YC (some 6) Tryz.func183 #[.int .i64 a0] (GS.calls a0 true _ A3.out) ?_;rintro e w' ⟨rfl,⟨nd,rfl⟩⟩;refine ⟨_,rfl,?_⟩)|(go_at_call 183;(with_reducible refine (GS.calls a1 false _ A5.out).mono ?_);rintro e w' ⟨rfl,⟨nd,rfl⟩⟩))
 go_ret;exact ⟨by first|rfl|(simp;done)|(simp [*];done),by repeat (first|exact Drawn0.refl _|apply Drawn0.step)⟩
def FD.l0 : Nat -> List Int -> Int -> Option (Bool)
 | 0,_,_ => none
 | k + 1,x0,x3 => if x3 > 0 then (if 0 <= x3 then (if x3 < (x0.length : Int) then (if 0 <= (wrap64 (x3 - 1)) then (if (wrap64 (x3 - 1)) < (x0.length : Int) then ((GN.f (rd x0 x3) (rd x0 (wrap64 (x3 - 1)))).bind fun d => (if d = true then (some false) else (FD.l0 k x0 (wrap64 (x3 - 1))))) else (none)) else (none)) else (none)) else (none)) else (some true)
def FD.f (k : Nat) (l0 : List Int) : Option (Bool) := FD.l0 k l0 (wrap64 ((l0.length : Int) - 1))
set_option maxHeartbeats 3000000 in
set_option maxRecDepth 100000 in
theorem FD.calls (k : Nat) (A0 : Option Addr) (c0 : Nat) (l0 : List Int) (r : Bool) (w : World) (E : Kd.C (Kd.int .i64) w A0 l0.length l0) (G : l0.length <= c0) (h : FD.f k l0 = some r) :
  Calls Tryz.prog 128 #[.slice A0 l0.length c0] w fun e w' => e = .returned (.bool r) ∧ Drawn0 w w' := by
 have z := ZA E;have af := ZA G;clear E G;have H : (FD.l0 k l0 (wrap64 ((l0.length : Int) - 1))) = some r := h;clear h;have H' := ZA H;clear H;go_enter Tryz.func128,Tryz.ntmps128;go_wp2
 repeat (go_quiet (fail);try go_wp2)
 go_loopg [3] k (fun kq v3 w' => ∃ (d : Int),v3 = .int .i64 d ∧ Aside0 (FD.l0 kq l0 d = some r) ∧ Aside0 (kq <= k) ∧ Drawn0 w w')
 case atStart => exact ⟨(wrap64 ((l0.length : Int) - 1)),ZG,H',⟨Nat.le_refl _⟩,by repeat (first|exact Drawn0.refl _|apply Drawn0.step)⟩
 case round =>
  clear H';obtain ⟨d,rfl,HA,I,⟨m1,rfl⟩⟩ := hrel;cases gk with
  | zero => exact absurd HA.out (by simp [FD.l0])
  | succ k1 =>
   have H := HA.out;clear HA;simp only [FD.l0] at H;replace H := YI H;rcases H with ⟨D,H⟩|⟨D,H⟩;rotate_left
   ·obtain rfl := Option.some.inj H;go_wp2
    repeat (go_quiet (fail);try go_wp2)
    go_ret;exact ⟨by first|rfl|(simp;done)|(simp [*];done),by repeat (first|exact Drawn0.refl _|apply Drawn0.step)⟩
   replace H := YN H;obtain ⟨ab,H⟩ := H;replace H := YN H;obtain ⟨ac,H⟩ := H;obtain ⟨g,o⟩ : ∃ j_ : Int,(wrap64 (d - 1)) = j_ := ⟨_,rfl⟩;replace H : (if 0 <= (g) then (if (g) < (l0.length : Int) then ((GN.f (rd l0 d) (rd l0 (g))).bind fun u => (if u = true then (some false) else (FD.l0 k1 l0 g))) else (none)) else (none)) = some r := by first|(rw [o] at H;exact H)|(simp only [o] at H ⊢;exact H)
   have aa : (IntKind.i64.wrap (d - 1)) = g := (Eay _).trans o;replace H := YN H;obtain ⟨ad,H⟩ := H;replace H := YN H;obtain ⟨ae,H⟩ := H;replace H := YJ H;obtain ⟨u,A8,H⟩ := H;by_cases c9 : u = true
   ·subst c9;rw [if_pos rfl] at H;obtain rfl := Option.some.inj H;have i : 0 <= (d : Int) := ZD;have j : d < (l0.length : Int) := ZD;obtain ⟨p,v,s⟩ := Kd.Ean z.out d i j;cases v;replace i := eq_true i;replace j := eq_true j;have m : 0 <= ((g) : Int) := ZD;have n : (g) < (l0.length : Int) := ZD;obtain ⟨q,y,t⟩ := Kd.Ean z.out (g) m n;obtain rfl : p = q := (by injection y);replace m := eq_true m;replace n := eq_true n
    go_wp2_with (first|(go_at_call 158;(with_reducible refine (GN.calls (rd l0 d) (rd l0 (g)) true _ A8.out).mono ?_);rintro e w' ⟨rfl,⟨nd,rfl⟩⟩;(try first|exact ⟨rfl,_,World.drewN_drewN _ _ _⟩|exact ⟨rfl,_,YW _ _ _ _⟩)))
    repeat (go_quiet (first|(go_at_call 158;(with_reducible refine (GN.calls (rd l0 d) (rd l0 (g)) true _ A8.out).mono ?_);rintro e w' ⟨rfl,⟨nd,rfl⟩⟩;(try first|exact ⟨rfl,_,World.drewN_drewN _ _ _⟩|exact ⟨rfl,_,YW _ _ _ _⟩)));try go_wp2_with (first|(go_at_call 158;(with_reducible refine (GN.calls (rd l0 d) (rd l0 (g)) true _ A8.out).mono ?_);rintro e w' ⟨rfl,⟨nd,rfl⟩⟩;(try first|exact ⟨rfl,_,World.drewN_drewN _ _ _⟩|exact ⟨rfl,_,YW _ _ _ _⟩))))
    go_ret;exact ⟨by first|rfl|(simp;done)|(simp only [<- o] <;> (first|rfl|simp))|(simp [*];done),by repeat (first|exact Drawn0.refl _|apply Drawn0.step)⟩
   replace c9 := Bool.eq_false_iff.mpr c9;subst c9;rw [if_neg (show ¬ (false = true) by decide)] at H;have H' := ZA H;clear H;have i : 0 <= (d : Int) := ZD;have j : d < (l0.length : Int) := ZD;obtain ⟨p,v,s⟩ := Kd.Ean z.out d i j;cases v;replace i := eq_true i;replace j := eq_true j;have m : 0 <= ((g) : Int) := ZD;have n : (g) < (l0.length : Int) := ZD;obtain ⟨q,y,t⟩ := Kd.Ean z.out (g) m n;obtain rfl : p = q := (by injection y);replace m := eq_true m;replace n := eq_true n
   go_wp2_with (first|(go_at_call 158;(with_reducible refine (GN.calls (rd l0 d) (rd l0 (g)) false _ A8.out).mono ?_);rintro e w' ⟨rfl,⟨nd,rfl⟩⟩;(try first|exact ⟨rfl,_,World.drewN_drewN _ _ _⟩|exact ⟨rfl,_,YW _ _ _ _⟩)))
   repeat (go_quiet (first|(go_at_call 158;(with_reducible refine (GN.calls (rd l0 d) (rd l0 (g)) false _ A8.out).mono ?_);rintro e w' ⟨rfl,⟨nd,rfl⟩⟩;(try first|exact ⟨rfl,_,World.drewN_drewN _ _ _⟩|exact ⟨rfl,_,YW _ _ _ _⟩)));try go_wp2_with (first|(go_at_call 158;(with_reducible refine (GN.calls (rd l0 d) (rd l0 (g)) false _ A8.out).mono ?_);rintro e w' ⟨rfl,⟨nd,rfl⟩⟩;(try first|exact ⟨rfl,_,World.drewN_drewN _ _ _⟩|exact ⟨rfl,_,YW _ _ _ _⟩))))
   go_roundg k1
   case measure => have := I.out;omega
   case rel => exact ⟨(g),(by first|rfl|(simp;done)|(simp only [<- o] <;> (first|rfl|simp))|(simp [*];done)),H',⟨by have := I.out;omega⟩,by repeat (first|exact Drawn0.refl _|apply Drawn0.step)⟩
end Go.Proofs.YtgnijnlgbelifaaGreat.Q
