import Derived.Test.YtgnijnlgbelifaaGreatQBSpecDrawCoverageAfter
import Derived.Test.YtgnijnlgbelifaaGreatGUp
import Derived.WalkSpells
import Derived.Test.YtgnijnlgbelifaaGreatS0Nm231
import Derived.Shelf.GgClosure.Gives
import Derived.Lib.OwnBridge
import Derived.Test.YtgnijnlgbelifaaGreatS137
import Derived.Lib.Bytealg
namespace Go.Proofs.YtgnijnlgbelifaaGreat.Q
open Go.RowKit Go.Proofs.YtgnijnlgbelifaaGreatW.PrintWords Go.Proofs.YtgnijnlgbelifaaGreatW.PrintLast Go.Proofs.YtgnijnlgbelifaaGreatW.PrintMore Go.Proofs.YtgnijnlgbelifaaGreatW.GCall
attribute [local go_sem] max2_int min2_int max_two min_two max_three min_three max_four min_four
set_option linter.unusedVariables false
set_option linter.unusedSimpArgs false
def slices_Index_int.l0 : Nat -> List Int -> Int -> Int -> Int -> Option (Int)
 | 0,_,_,_,_ => none
 | k + 1,x0,x1,x7,x8 => if x8 < x7 then (if 0 <= x8 then (if x8 < (x0.length : Int) then (if x1 = (rd x0 x8) then (some x8) else (slices_Index_int.l0 k x0 x1 x7 (wrap64 (x8 + 1)))) else (none)) else (none)) else (some (-1))
def slices_Index_int.f (k : Nat) (l0 : List Int) (a1 : Int) : Option (Int) := slices_Index_int.l0 k l0 a1 (l0.length : Int) 0
theorem slices_Index_int.mono_l : ∀ k,(∀ y0 y1 y2 y3,LeO (slices_Index_int.l0 k y0 y1 y2 y3) (slices_Index_int.l0 (k + 1) y0 y1 y2 y3))
 | 0 => fun _ _ _ _ r h => by simp [slices_Index_int.l0] at h
 | k + 1 => by
  have ih0 := slices_Index_int.mono_l k;intro y0 y1 y2 y3;unfold slices_Index_int.l0
  with_reducible repeat' first|apply ih0|apply LeO.refl|apply LeO.none|refine LeO.ite ?_ ?_|refine LeO.bind ?_ (fun _ => ?_)
theorem slices_Index_int.mono : ∀ a0 a1 k,LeO (slices_Index_int.f k a0 a1) (slices_Index_int.f (k + 1) a0 a1) := by
 intro a0 a1 k;have ih0 := slices_Index_int.mono_l k;unfold slices_Index_int.f
 with_reducible repeat' first|apply ih0|apply LeO.refl|apply LeO.none|refine LeO.ite ?_ ?_|refine LeO.bind ?_ (fun _ => ?_)
set_option maxHeartbeats 3000000 in
set_option maxRecDepth 100000 in
theorem slices_Index_int.calls (k : Nat) (A0 : Option Addr) (c0 : Nat) (l0 : List Int) (a1 : Int) (r : Int) (w : World) (hr0 : Kd.C (Kd.int .i64) w A0 l0.length l0) (hc0 : l0.length <= c0) (h : slices_Index_int.f k l0 a1 = some r) :
  Calls Tryz.prog 70 #[.slice A0 l0.length c0,.int .i64 a1] w fun e w' => e = .returned (.int .i64 r) ∧ Drawn0 w w' := by
 have HR0 := ZA hr0;have HC0 := ZA hc0;clear hr0 hc0;have H : (slices_Index_int.l0 k l0 a1 (l0.length : Int) 0) = some r := h;clear h;have H' := ZA H;clear H;go_enter Tryz.func70,Tryz.ntmps70;go_wp2
 go_loopg [8] k (fun kq v8 w' => ∃ (x8_1 : Int),v8 = .int .i64 x8_1 ∧ Aside0 (slices_Index_int.l0 kq l0 a1 (l0.length : Int) x8_1 = some r) ∧ Aside0 (kq <= k) ∧ Drawn0 w w')
 case atStart => exact ⟨(0),ZG,H',⟨Nat.le_refl _⟩,by repeat (first|exact Drawn0.refl _|apply Drawn0.step)⟩
 case round =>
  clear H';obtain ⟨x8_1,rfl,HA,HK1,⟨m1,rfl⟩⟩ := hrel;cases gk with
  | zero => exact absurd HA.out (by simp [slices_Index_int.l0])
  | succ k1 =>
   have H := HA.out;clear HA;simp only [slices_Index_int.l0] at H;replace H := YI H;rcases H with ⟨c3b0,H⟩|⟨c3b0,H⟩;rotate_left
   ·obtain rfl := Option.some.inj H;go_wp2;go_ret;exact ⟨by first|rfl|(simp;done)|(simp [*];done),by repeat (first|exact Drawn0.refl _|apply Drawn0.step)⟩
   replace H := YN H;obtain ⟨c4b0,H⟩ := H;replace H := YN H;obtain ⟨c5b0,H⟩ := H;by_cases c6 : a1 = (rd l0 x8_1)
   ·rw [if_pos c6] at H;have c6b0 : (a1 == (rd l0 x8_1)) = true := beq_iff_eq.mpr c6;have c6b1 : (a1 != (rd l0 x8_1)) = false := bne_eq_false_iff_eq.mpr c6;clear c6;obtain rfl := Option.some.inj H;have p101 : 0 <= (x8_1 : Int) := ZD;have q101 : x8_1 < (l0.length : Int) := ZD;obtain ⟨ad101,e101,hx101_0⟩ := Kd.at_int HR0.out x8_1 p101 q101;cases e101;replace p101 := eq_true p101;replace q101 := eq_true q101;go_wp2;go_ret;exact ⟨by first|rfl|(simp;done)|(simp [*];done),by repeat (first|exact Drawn0.refl _|apply Drawn0.step)⟩
   rw [if_neg c6] at H;have c6b0 : (a1 == (rd l0 x8_1)) = false := beq_eq_false_iff_ne.mpr c6;have c6b1 : (a1 != (rd l0 x8_1)) = true := bne_iff_ne.mpr c6;have H' := ZA H;clear H;have p101 : 0 <= (x8_1 : Int) := ZD;have q101 : x8_1 < (l0.length : Int) := ZD;obtain ⟨ad101,e101,hx101_0⟩ := Kd.at_int HR0.out x8_1 p101 q101;cases e101;replace p101 := eq_true p101;replace q101 := eq_true q101;go_wp2
   go_roundg k1
   case measure => have := HK1.out;omega
   case rel => exact ⟨(wrap64 (x8_1 + 1)),ZG,H',⟨by have := HK1.out;omega⟩,by repeat (first|exact Drawn0.refl _|apply Drawn0.step)⟩
def slices_Contains_int.f (k : Nat) (l0 : List Int) (a1 : Int) : Option (Bool) := (slices_Index_int.f k l0 a1).bind fun t101 => (some (decide (t101 >= 0)))
theorem slices_Contains_int.mono : ∀ a0 a1 k,LeO (slices_Contains_int.f k a0 a1) (slices_Contains_int.f (k + 1) a0 a1) := by
 intro a0 a1 k;unfold slices_Contains_int.f
 with_reducible repeat' first|apply slices_Index_int.mono|apply LeO.refl|apply LeO.none|refine LeO.ite ?_ ?_|refine LeO.bind ?_ (fun _ => ?_)
set_option maxHeartbeats 3000000 in
set_option maxRecDepth 100000 in
theorem slices_Contains_int.calls (k : Nat) (A0 : Option Addr) (c0 : Nat) (l0 : List Int) (a1 : Int) (r : Bool) (w : World) (hr0 : Kd.C (Kd.int .i64) w A0 l0.length l0) (hc0 : l0.length <= c0) (h : slices_Contains_int.f k l0 a1 = some r) :
  Calls Tryz.prog 91 #[.slice A0 l0.length c0,.int .i64 a1] w fun e w' => e = .returned (.bool r) ∧ Drawn0 w w' := by
 have HR0 := ZA hr0;have HC0 := ZA hc0;clear hr0 hc0;have H : ((slices_Index_int.f k l0 a1).bind fun t101 => (some (decide (t101 >= 0)))) = some r := h;clear h;replace H := YJ H;obtain ⟨t101,A3,H⟩ := H;obtain rfl := Option.some.inj H;go_enter Tryz.func91,Tryz.ntmps91
 go_wp2_with (first|((with_reducible refine YG 70 ?_);refine YC (some 7) Tryz.func70 #[.slice A0 l0.length c0,.int .i64 a1] (slices_Index_int.calls k _ _ l0 a1 t101 _ (ZR HR0.out) HC0.out A3.out) ?_;rintro e w' ⟨rfl,⟨nd,rfl⟩⟩;refine ⟨_,rfl,?_⟩))
 go_ret;exact ⟨by first|rfl|(simp;done)|(simp [*];done),by repeat (first|exact Drawn0.refl _|apply Drawn0.step)⟩
def slices_Clone_int.f (l0 : List Int) : Option (List Int) := (some (([] : List Int) : List Int)).bind fun y101 => (if y101.length + l0.length < 17592186044416 then (some (y101 ++ l0)) else (none))
set_option maxHeartbeats 3000000 in
set_option maxRecDepth 100000 in
theorem slices_Clone_int.calls (A0 : Option Addr) (c0 : Nat) (l0 : List Int) (r : List Int) (w : World) (hr0 : Kd.C (Kd.int .i64) w A0 l0.length l0) (hc0 : l0.length <= c0) (h : slices_Clone_int.f l0 = some r) :
  Calls Tryz.prog 110 #[.slice A0 l0.length c0] w fun e w' => ∃ v0_ : Value,e = .returned (v0_) ∧ Kd.R (Kd.int .i64) 3 w' w.heap.size (fun _ => True) v0_ r ∧ Below w.heap.size w w' := by
 cases A0 with
 | none =>
  obtain rfl : l0 = [] := by
   rcases Nat.eq_zero_or_pos l0.length with h0_ | h0_
   ·exact List.eq_nil_of_length_eq_zero h0_
   obtain ⟨_,e_,_⟩ := hr0.2.2 h0_;cases e_
  have hr_ : r = [] := by simp [slices_Clone_int.f] at h;first|exact h|exact h.symm
  subst hr_;have hu28 := Tryz.underlying28;have hq_ := fun (w : World) (n c n' c' : Nat) => Lib.run_eql_slice_nil (P := Tryz.prog) w 28 3 none n c n' c' hu28
  go_enter Tryz.func110,Tryz.ntmps110;go_wp2;go_ret;exact ⟨.slice none 0 0,rfl,Kd.R_nil _ _ _ _ _,Below.refl _ _⟩
 | some ad0_ =>
  have hu_ := Tryz.underlying28;have hq_ := fun (w : World) (n c n' c' : Nat) => Lib.run_eql_slice_nil (P := Tryz.prog) w 28 3 (some ad0_) n c n' c' hu_
  have HR0 := ZA hr0;have HC0 := ZA hc0;clear hr0 hc0;have HB := ZA (Below.refl w.heap.size w);have H := h;clear h;unfold slices_Clone_int.f at H;obtain ⟨y101,hy101⟩ : ∃ y_ : List Int,y_ = (([] : List Int)) := ⟨_,rfl⟩;replace H : (if y101.length + l0.length < 17592186044416 then (some (y101 ++ l0)) else (none)) = some r := YH hy101 H;have Ny101 := ZA hy101;clear hy101;replace H := YM H;obtain ⟨c2,H⟩ := H;have LMc2 := ZA c2;clear c2;obtain ⟨y104,hy104⟩ : ∃ y_ : List Int,y_ = (y101 ++ l0) := ⟨_,rfl⟩;replace H : (some y104) = some r := YH hy104 H;have Ny104 := ZA hy104;clear hy104;obtain rfl := Option.some.inj H;go_enter Tryz.func110,Tryz.ntmps110
  go_wp2_with (first|((with_reducible refine gate_dst (N := 5) rfl ?_);refine Kd.R_lit (Kd.int .i64) _ 3 ?hg (N := 5) ?hd (xs := ([] : List Int)) (inner := []) (ok := fun _ => True) (okp := fun _ => True) ?hr ?hp (fun _ hk => hk) trivial (Below.refl _ _) (Nat.le_refl _) (by simp) ?_;(case hd => rfl);(case hg => rfl);(case hr => first|(go_simp;done)|(go_simp;rfl));(case hp => exact (Reps.none _ _));intro v102 w3 ho4 hb hg_ hnew_;clear hg_ hnew_;(first|rw [<- Ny101.out] at ho4|(simp only [Int.reduceToNat] at ho4;rw [<- Ny101.out] at ho4));have HO103 := ZA (Kd.R_lower ho4 (SZ HB));replace HB := BS HB hb;clear hb ho4)|((with_reducible refine gate_builtin (b := .append) (xs := #[.tmp 5,.tmp 6]) rfl ?_);at_builtin;refine Kd.R_append_rows (Kd.int .i64) (w0 := w) w.heap.size rfl (.tmp 5) (.tmp 6) 28 3 (.int .i64 0) 8 rfl Tryz.underlying28 info3 rfl (by decide) (by omega) v102 y101 l0 _ _ _ (fun _ => True) (fun _ => False) rfl rfl (ZK HO103) (ZR (Kd.C_below HR0.out HB.out)) (fun _ _ h => h) (fun _ h => h.elim) (fun _ _ => trivial) (ZQ HB) (SZ HB) ?aL ?_;(case aL => have := LMc2.out;omega);intro v105 w5 ho hb hg hat;rw [<- Ny104.out] at ho;replace HB := ZA (hb);have HO106 := ZA (ho);clear HO103;clear ho hb hg hat))
  go_ret;exact ⟨_,YR,ZK HO106,ZQ HB⟩
def impl_distinct_int.sorted (l : List Int) : List Int := l.mergeSort fun x y => decide (x <= y)
def impl_distinct_int.f (l0 : List Int) : Option (List Int) := (slices_Clone_int.f l0).bind fun l1 => some (Lib.compact (impl_distinct_int.sorted l1))
set_option maxHeartbeats 1000000
open Go.Lib Go.Sort
theorem impl_distinct_int.nil_or {w : World} {base e n : Nat} {zs : List Int} (h : w.ownsRow base e 1 (.slice none 0 0) n (zs.map (Value.int .i64))) : zs = [] := by
 have hl : zs.length = n := by simpa using h.1
 rcases h.2 with ⟨_,h2⟩ | ⟨g,cap,cur,e0,_⟩
 ·exact List.eq_nil_of_length_eq_zero (by omega)
 cases e0
theorem impl_distinct_int.sort (w : World) (base : Nat) (ok : Nat -> Prop) (v : Value) (l : List Int) (h : Kd.R (Kd.int .i64) 3 w base ok v l) (hl : l.length < 4611686018427387904) :
  Calls Tryz.prog 96 #[v] w fun e w' => e = .returned (.tuple #[]) ∧ Kd.R (Kd.int .i64) 3 w' base ok v (impl_distinct_int.sorted l) ∧ ∀ B w0,B <= base -> Below B w0 w -> Below B w0 w' := by
 have ho : w.ownsRow base 3 1 v l.length (l.map (Value.int .i64)) := Kd.own_of_R h;by_cases hv : v = .slice none 0 0
 ·subst hv;obtain rfl := impl_distinct_int.nil_or ho;refine (Tryz.slices_Sort_int_none none 0 w).mono ?_;rintro e w' ⟨rfl,rfl⟩;exact ⟨rfl,by simpa [impl_distinct_int.sorted] using h,fun _ _ _ hb => hb⟩
 obtain ⟨g,cap,rfl,hb,hlt,hn,hm,_,hH⟩ := Lib.holds_of_ownsRow ho hv;refine (Tryz.slices_Sort_int g 0 cap l w hH hlt hl).mono ?_;rintro e w' ⟨rfl,n,os,rfl⟩;have hlen : (impl_distinct_int.sorted l).length = l.length := by simp [impl_distinct_int.sorted]
 have h1 := Lib.ownsRow_putRow (q := n) (k := l.length) (ys := impl_distinct_int.sorted l) ho hlen (Nat.le_refl _);rw [List.take_of_length_le (by omega)] at h1;have hbel := below_grown (putRow (Value.int .i64) (Sort.ahead w n) g 0 (impl_distinct_int.sorted l).toArray) 0 os;refine ⟨rfl,?_,?_⟩
 ·have h2 : Kd.R (Kd.int .i64) 3 (putRow (Value.int .i64) (Sort.ahead w n) g 0 (impl_distinct_int.sorted l).toArray) base ok (.slice (some ⟨g,0,none⟩) l.length cap) (impl_distinct_int.sorted l) := Kd.R_of_own (by rw [hlen];exact h1) h.1;exact Kd.R_below h2 hbel
 intro B w0 hB hb0;have hp := Lib.below_putRow (enc := Value.int .i64) (q := n) (d := (impl_distinct_int.sorted l).toArray) hb0 (Nat.le_trans hB hb);have hz : (putRow (Value.int .i64) (Sort.ahead w n) g 0 (impl_distinct_int.sorted l).toArray).heap.size = w.heap.size := by simp [putRow,mapBlock,Sort.ahead]
 exact hp.trans (hbel.mono (by rw [hz];omega))
theorem impl_distinct_int.comp (w : World) (base : Nat) (ok : Nat -> Prop) (v : Value) (l : List Int) (h : Kd.R (Kd.int .i64) 3 w base ok v l) (hl : l.length <= 9223372036854775807) :
  Calls Tryz.prog 148 #[v] w fun e w' => ∃ v1,e = .returned v1 ∧ Kd.R (Kd.int .i64) 3 w' base ok v1 (Lib.compact l) ∧ ∀ B w0,B <= base -> Below B w0 w -> Below B w0 w' := by
 have ho : w.ownsRow base 3 1 v l.length (l.map (Value.int .i64)) := Kd.own_of_R h;by_cases hv : v = .slice none 0 0
 ·subst hv;obtain rfl := impl_distinct_int.nil_or ho;refine (Tryz.slices_Compact_int_empty none 0 w).mono ?_;rintro e w' ⟨rfl,rfl⟩;exact ⟨_,rfl,h,fun _ _ _ hb => hb⟩
 obtain ⟨g,cap,rfl,hb,hlt,hn,hm,_,hH⟩ := Lib.holds_of_ownsRow ho hv;refine (Tryz.slices_Compact_int g 0 cap l w hH hl hn).mono ?_;rintro e w' ⟨rfl,q,rfl⟩;have hlen : (Lib.compact l).length <= l.length := Lib.compact_length_le l;have h1 := Lib.ownsRow_putRow (q := q) (k := (Lib.compact l).length) (ys := Lib.compact l ++ List.replicate (l.length - (Lib.compact l).length) 0) ho (by simp;omega) hlen;rw [List.take_left] at h1;exact ⟨_,rfl,Kd.R_of_own h1 (fun k hk => h.1 k hk),fun B w0 hB hb0 => Lib.below_putRow hb0 (Nat.le_trans hB hb)⟩
set_option maxHeartbeats 1000000 in
theorem impl_distinct_int.calls (A0 : Option Addr) (c0 : Nat) (l0 : List Int) (r : List Int) (w : World) (hr0 : Kd.C (Kd.int .i64) w A0 l0.length l0) (hc0 : l0.length <= c0) (h : impl_distinct_int.f l0 = some r) :
  Calls Tryz.prog 100 #[.slice A0 l0.length c0] w fun e w' => ∃ v0_ : Value,e = .returned v0_ ∧ Kd.R (Kd.int .i64) 3 w' w.heap.size (fun _ => True) v0_ r ∧ Below w.heap.size w w' := by
 unfold impl_distinct_int.f at h;obtain ⟨l1,hc,h2⟩ := ZI h;obtain rfl := Option.some.inj h2;clear h h2;have hl1 : l1.length < 17592186044416 := by
  unfold slices_Clone_int.f at hc;simp only [Option.bind_some,List.length_nil,Nat.zero_add,List.nil_append] at hc
  split at hc
  ·obtain rfl := Option.some.inj hc
   assumption
  cases hc
 have hl2 : (impl_distinct_int.sorted l1).length <= 9223372036854775807 := by simp [impl_distinct_int.sorted];omega
 have HCL := ZA (slices_Clone_int.calls A0 c0 l0 l1 w hr0 hc0 hc);have HL := ZA hl1;have HL2 := ZA hl2;clear hr0 hc hl1 hl2;generalize hg : impl_distinct_int.sorted l1 = l2 at HL2 ⊢;have HG := ZA hg;clear hg;go_enter Tryz.func100,Tryz.ntmps100
 go_wp2_with (first|(go_at_call 110;refine HCL.out.mono ?_;rintro e w1 ⟨v0_,rfl,ho,hb⟩;have HO := ZA ho;have HB := ZA hb;clear ho hb HCL)|(go_at_call 96;refine (impl_distinct_int.sort _ _ _ _ _ (ZK HO) (Nat.lt_trans HL.out (by decide))).mono ?_;rintro e w2 ⟨rfl,ho,hb⟩;replace HO := ZA ho;replace HB := ZA (hb _ _ (Nat.le_refl _) (ZQ HB));clear ho hb)|(go_at_call 148;refine (impl_distinct_int.comp _ _ _ _ _ (ZK HO) (by rw [HG.out];exact HL2.out)).mono ?_;rintro e w3 ⟨v1_,rfl,ho,hb⟩;replace HO := ZA ho;replace HB := ZA (hb _ _ (Nat.le_refl _) (ZQ HB));clear ho hb))
 go_ret;exact ⟨_,rfl,by rw [<- HG.out];exact HO.out,HB.out⟩
def strings_IndexByte.f (a0 : ByteArray) (a1 : Int) : Option (Int) := some (Lib.indexByte a0.data.toList a1.toNat.toUInt8)
theorem strings_IndexByte.calls (a0 : ByteArray) (a1 : Int) (r : Int) (w : World) (h : strings_IndexByte.f a0 a1 = some r) :
  Calls Tryz.prog 194 #[.string a0,.int .u8 a1] w fun e w' => e = .returned (.int .i64 r) ∧ Drawn0 w w' := by
 obtain rfl := Option.some.inj h;refine (Tryz.strings_IndexByte a0 a1 w).mono ?_;rintro e w' ⟨rfl,rfl⟩;exact ⟨rfl,Drawn0.refl _⟩
def impl_hasOnly.l0 : Nat -> ByteArray -> ByteArray -> Int -> Int -> Option (Bool)
 | 0,_,_,_,_ => none
 | k + 1,x0,x1,x7,x8 => if x8 < x7 then (if 0 <= x8 then (if x8 < (x0.size : Int) then ((strings_IndexByte.f x1 (bt x0 x8)).bind fun t101 => (if t101 < 0 then (some false) else (impl_hasOnly.l0 k x0 x1 x7 (wrap64 (x8 + 1))))) else (none)) else (none)) else (some true)
def impl_hasOnly.f (k : Nat) (a0 : ByteArray) (a1 : ByteArray) : Option (Bool) := impl_hasOnly.l0 k a0 a1 (a0.size : Int) 0
set_option maxHeartbeats 3000000 in
set_option maxRecDepth 100000 in
theorem impl_hasOnly.calls (k : Nat) (a0 : ByteArray) (a1 : ByteArray) (r : Bool) (w : World) (h : impl_hasOnly.f k a0 a1 = some r) :
  Calls Tryz.prog 182 #[.string a0,.string a1] w fun e w' => e = .returned (.bool r) ∧ Drawn0 w w' := by
 have H : (impl_hasOnly.l0 k a0 a1 (a0.size : Int) 0) = some r := h;clear h;have H' := ZA H;clear H;go_enter Tryz.func182,Tryz.ntmps182;go_wp2
 go_loopg [8] k (fun kq v8 w' => ∃ (x8_1 : Int),v8 = .int .i64 x8_1 ∧ Aside0 (impl_hasOnly.l0 kq a0 a1 (a0.size : Int) x8_1 = some r) ∧ Aside0 (kq <= k) ∧ Drawn0 w w')
 case atStart => exact ⟨(0),ZG,H',⟨Nat.le_refl _⟩,by repeat (first|exact Drawn0.refl _|apply Drawn0.step)⟩
 case round =>
  clear H';obtain ⟨x8_1,rfl,HA,HK1,⟨m1,rfl⟩⟩ := hrel;cases gk with
  | zero => exact absurd HA.out (by simp [impl_hasOnly.l0])
  | succ k1 =>
   have H := HA.out;clear HA;simp only [impl_hasOnly.l0] at H;replace H := YI H;rcases H with ⟨c3b0,H⟩|⟨c3b0,H⟩;rotate_left
   ·obtain rfl := Option.some.inj H;go_wp2;go_ret;exact ⟨by first|rfl|(simp;done)|(simp [*];done),by repeat (first|exact Drawn0.refl _|apply Drawn0.step)⟩
   replace H := YN H;obtain ⟨c4b0,H⟩ := H;replace H := YN H;obtain ⟨c5b0,H⟩ := H;replace H := YJ H;obtain ⟨t101,A7,H⟩ := H;by_cases c8 : t101 < 0
   ·rw [if_pos c8] at H;have c8b0 := decide_eq_true c8;clear c8;obtain rfl := Option.some.inj H;have p6 : 0 <= (x8_1 : Int) := ZD;have q6 : x8_1 < (a0.size : Int) := ZD;have hx6 := bt_at a0 x8_1;replace p6 := eq_true p6;replace q6 := eq_true q6
    go_wp2_with (first|((with_reducible refine YG 194 ?_);refine YC (some 15) Tryz.func194 #[.string a1,.int .u8 (bt a0 x8_1)] (strings_IndexByte.calls a1 (bt a0 x8_1) t101 _ A7.out) ?_;rintro e w' ⟨rfl,⟨nd,rfl⟩⟩;refine ⟨_,rfl,?_⟩))
    go_ret;exact ⟨by first|rfl|(simp;done)|(simp [*];done),by repeat (first|exact Drawn0.refl _|apply Drawn0.step)⟩
   rw [if_neg c8] at H;have c8b0 := decide_eq_false c8;clear c8;have H' := ZA H;clear H;have p6 : 0 <= (x8_1 : Int) := ZD;have q6 : x8_1 < (a0.size : Int) := ZD;have hx6 := bt_at a0 x8_1;replace p6 := eq_true p6;replace q6 := eq_true q6
   go_wp2_with (first|((with_reducible refine YG 194 ?_);refine YC (some 15) Tryz.func194 #[.string a1,.int .u8 (bt a0 x8_1)] (strings_IndexByte.calls a1 (bt a0 x8_1) t101 _ A7.out) ?_;rintro e w' ⟨rfl,⟨nd,rfl⟩⟩;refine ⟨_,rfl,?_⟩))
   go_roundg k1
   case measure => have := HK1.out;omega
   case rel => exact ⟨(wrap64 (x8_1 + 1)),ZG,H',⟨by have := HK1.out;omega⟩,by repeat (first|exact Drawn0.refl _|apply Drawn0.step)⟩
def impl_isWordOf.f (k : Nat) (a0 : ByteArray) (a1 : ByteArray) : Option (Bool) := (impl_within.f (a0.size : Int) 1 8).bind fun t101 => (if t101 = true then ((impl_hasOnly.f k a0 a1).bind fun t102 => (some t102)) else (some false))
set_option maxHeartbeats 3000000 in
set_option maxRecDepth 100000 in
theorem impl_isWordOf.calls (k : Nat) (a0 : ByteArray) (a1 : ByteArray) (r : Bool) (w : World) (h : impl_isWordOf.f k a0 a1 = some r) :
  Calls Tryz.prog 157 #[.string a0,.string a1] w fun e w' => e = .returned (.bool r) ∧ Drawn0 w w' := by
 have H := h;clear h;unfold impl_isWordOf.f at H;replace H := YJ H;obtain ⟨t101,A3,H⟩ := H;replace H := YF H;rcases H with ⟨rfl,H⟩|⟨rfl,H⟩;rotate_left
 ·obtain rfl := Option.some.inj H;go_enter Tryz.func157,Tryz.ntmps157
  go_wp2_with (first|((with_reducible refine YG 62 ?_);refine YC (some 7) Tryz.func62 #[.int .i64 (a0.size : Int),.int .i64 1,.int .i64 8] (impl_within.calls (a0.size : Int) 1 8 false _ A3.out) ?_;rintro e w' ⟨rfl,⟨nd,rfl⟩⟩;refine ⟨_,rfl,?_⟩))
  go_ret;exact ⟨by first|rfl|(simp;done)|(simp [*];done),by repeat (first|exact Drawn0.refl _|apply Drawn0.step)⟩
 replace H := YJ H;obtain ⟨t102,A5,H⟩ := H;obtain rfl := Option.some.inj H;go_enter Tryz.func157,Tryz.ntmps157
 go_wp2_with (first|((with_reducible refine YG 62 ?_);refine YC (some 7) Tryz.func62 #[.int .i64 (a0.size : Int),.int .i64 1,.int .i64 8] (impl_within.calls (a0.size : Int) 1 8 true _ A3.out) ?_;rintro e w' ⟨rfl,⟨nd,rfl⟩⟩;refine ⟨_,rfl,?_⟩)|(go_at_call 182;(with_reducible refine (impl_hasOnly.calls k a0 a1 t102 _ A5.out).mono ?_);rintro e w' ⟨rfl,⟨nd,rfl⟩⟩))
 go_ret;exact ⟨by first|rfl|(simp;done)|(simp [*];done),by repeat (first|exact Drawn0.refl _|apply Drawn0.step)⟩
def impl_IsGloss.f (k : Nat) (a0 : ByteArray) : Option (Bool) := (impl_isWordOf.f k a0 (⟨#[65,66,67,68,69,70,71,72,73,74,75,76,77,78,79,80,81,82,83,84,85,86,87,88,89,90]⟩ : ByteArray)).bind fun t101 => (some t101)
set_option maxHeartbeats 3000000 in
set_option maxRecDepth 100000 in
theorem impl_IsGloss.calls (k : Nat) (a0 : ByteArray) (r : Bool) (w : World) (h : impl_IsGloss.f k a0 = some r) :
  Calls Tryz.prog 127 #[.string a0] w fun e w' => e = .returned (.bool r) ∧ Drawn0 w w' := by
 have H := h;clear h;unfold impl_IsGloss.f at H;replace H := YJ H;obtain ⟨t101,A2,H⟩ := H;obtain rfl := Option.some.inj H;go_enter Tryz.func127,Tryz.ntmps127
 go_wp2_with (first|((with_reducible refine gate_callee (f := 157) rfl ?_);refine goesL_ (some 4) rfl rfl Tryz.func157 (by kernel_rfl) rfl #[.string a0,.string (⟨#[65,66,67,68,69,70,71,72,73,74,75,76,77,78,79,80,81,82,83,84,85,86,87,88,89,90]⟩ : ByteArray)] rfl (by (try simp only [List.map_toArray,List.map_cons,List.map_nil]);first|done|rfl|(simp only [List.length_drop,List.length_take];rfl)) ?_;(with_reducible refine (impl_isWordOf.calls k a0 (⟨#[65,66,67,68,69,70,71,72,73,74,75,76,77,78,79,80,81,82,83,84,85,86,87,88,89,90]⟩ : ByteArray) t101 _ A2.out).mono ?_);rintro e w' ⟨rfl,⟨nd,rfl⟩⟩;refine ⟨_,rfl,?_⟩))
 go_ret;exact ⟨by first|rfl|(simp;done)|(simp [*];done),by repeat (first|exact Drawn0.refl _|apply Drawn0.step)⟩
def cmp_isNaN_int.f (a0 : Int) : Option (Bool) := some (a0 != a0)
set_option maxHeartbeats 3000000 in
set_option maxRecDepth 100000 in
theorem cmp_isNaN_int.calls (a0 : Int) (r : Bool) (w : World) (h : cmp_isNaN_int.f a0 = some r) :
  Calls Tryz.prog 183 #[.int .i64 a0] w fun e w' => e = .returned (.bool r) ∧ Drawn0 w w' := by
 have H : (some (a0 != a0)) = some r := h;clear h;obtain rfl := Option.some.inj H;go_enter Tryz.func183,Tryz.ntmps183;go_wp2;go_ret;exact ⟨by first|rfl|(simp;done)|(simp [*];done),by repeat (first|exact Drawn0.refl _|apply Drawn0.step)⟩
def cmp_Less_int.f (a0 : Int) (a1 : Int) : Option (Bool) := (cmp_isNaN_int.f a0).bind fun t101 => (if t101 = true then ((cmp_isNaN_int.f a1).bind fun t102 => (if t102 = true then (some (decide (a0 < a1))) else (some true))) else (some (decide (a0 < a1))))
set_option maxHeartbeats 3000000 in
set_option maxRecDepth 100000 in
theorem cmp_Less_int.calls (a0 : Int) (a1 : Int) (r : Bool) (w : World) (h : cmp_Less_int.f a0 a1 = some r) :
  Calls Tryz.prog 158 #[.int .i64 a0,.int .i64 a1] w fun e w' => e = .returned (.bool r) ∧ Drawn0 w w' := by
 have H := h;clear h;unfold cmp_Less_int.f at H;replace H := YJ H;obtain ⟨t101,A3,H⟩ := H;replace H := YF H;rcases H with ⟨rfl,H⟩|⟨rfl,H⟩;rotate_left
 ·obtain rfl := Option.some.inj H;go_enter Tryz.func158,Tryz.ntmps158
  go_wp2_with (first|((with_reducible refine YG 183 ?_);refine YC (some 6) Tryz.func183 #[.int .i64 a0] (cmp_isNaN_int.calls a0 false _ A3.out) ?_;rintro e w' ⟨rfl,⟨nd,rfl⟩⟩;refine ⟨_,rfl,?_⟩))
  go_ret;exact ⟨by first|rfl|(simp;done)|(simp [*];done),by repeat (first|exact Drawn0.refl _|apply Drawn0.step)⟩
 replace H := YJ H;obtain ⟨t102,A5,H⟩ := H;by_cases c6 : t102 = true
 ·subst c6;rw [if_pos rfl] at H;obtain rfl := Option.some.inj H;go_enter Tryz.func158,Tryz.ntmps158
  go_wp2_with (first|((with_reducible refine YG 183 ?_);refine YC (some 6) Tryz.func183 #[.int .i64 a0] (cmp_isNaN_int.calls a0 true _ A3.out) ?_;rintro e w' ⟨rfl,⟨nd,rfl⟩⟩;refine ⟨_,rfl,?_⟩)|(go_at_call 183;(with_reducible refine (cmp_isNaN_int.calls a1 true _ A5.out).mono ?_);rintro e w' ⟨rfl,⟨nd,rfl⟩⟩))
  go_ret;exact ⟨by first|rfl|(simp;done)|(simp [*];done),by repeat (first|exact Drawn0.refl _|apply Drawn0.step)⟩
 replace c6 := Bool.eq_false_iff.mpr c6;subst c6;rw [if_neg (show ¬ (false = true) by decide)] at H;obtain rfl := Option.some.inj H;go_enter Tryz.func158,Tryz.ntmps158
 go_wp2_with (first|((with_reducible refine YG 183 ?_);refine YC (some 6) Tryz.func183 #[.int .i64 a0] (cmp_isNaN_int.calls a0 true _ A3.out) ?_;rintro e w' ⟨rfl,⟨nd,rfl⟩⟩;refine ⟨_,rfl,?_⟩)|(go_at_call 183;(with_reducible refine (cmp_isNaN_int.calls a1 false _ A5.out).mono ?_);rintro e w' ⟨rfl,⟨nd,rfl⟩⟩))
 go_ret;exact ⟨by first|rfl|(simp;done)|(simp [*];done),by repeat (first|exact Drawn0.refl _|apply Drawn0.step)⟩
def slices_IsSorted_int.l0 : Nat -> List Int -> Int -> Option (Bool)
 | 0,_,_ => none
 | k + 1,x0,x3 => if x3 > 0 then (if 0 <= x3 then (if x3 < (x0.length : Int) then (if 0 <= (wrap64 (x3 - 1)) then (if (wrap64 (x3 - 1)) < (x0.length : Int) then ((cmp_Less_int.f (rd x0 x3) (rd x0 (wrap64 (x3 - 1)))).bind fun t103 => (if t103 = true then (some false) else (slices_IsSorted_int.l0 k x0 (wrap64 (x3 - 1))))) else (none)) else (none)) else (none)) else (none)) else (some true)
def slices_IsSorted_int.f (k : Nat) (l0 : List Int) : Option (Bool) := slices_IsSorted_int.l0 k l0 (wrap64 ((l0.length : Int) - 1))
set_option maxHeartbeats 3000000 in
set_option maxRecDepth 100000 in
theorem slices_IsSorted_int.calls (k : Nat) (A0 : Option Addr) (c0 : Nat) (l0 : List Int) (r : Bool) (w : World) (hr0 : Kd.C (Kd.int .i64) w A0 l0.length l0) (hc0 : l0.length <= c0) (h : slices_IsSorted_int.f k l0 = some r) :
  Calls Tryz.prog 128 #[.slice A0 l0.length c0] w fun e w' => e = .returned (.bool r) ∧ Drawn0 w w' := by
 have HR0 := ZA hr0;have HC0 := ZA hc0;clear hr0 hc0;have H : (slices_IsSorted_int.l0 k l0 (wrap64 ((l0.length : Int) - 1))) = some r := h;clear h;have H' := ZA H;clear H;go_enter Tryz.func128,Tryz.ntmps128;go_wp2
 repeat (go_quiet (fail);try go_wp2)
 go_loopg [3] k (fun kq v3 w' => ∃ (x3_1 : Int),v3 = .int .i64 x3_1 ∧ Aside0 (slices_IsSorted_int.l0 kq l0 x3_1 = some r) ∧ Aside0 (kq <= k) ∧ Drawn0 w w')
 case atStart => exact ⟨(wrap64 ((l0.length : Int) - 1)),ZG,H',⟨Nat.le_refl _⟩,by repeat (first|exact Drawn0.refl _|apply Drawn0.step)⟩
 case round =>
  clear H';obtain ⟨x3_1,rfl,HA,HK1,⟨m1,rfl⟩⟩ := hrel;cases gk with
  | zero => exact absurd HA.out (by simp [slices_IsSorted_int.l0])
  | succ k1 =>
   have H := HA.out;clear HA;simp only [slices_IsSorted_int.l0] at H;replace H := YI H;rcases H with ⟨c2b0,H⟩|⟨c2b0,H⟩;rotate_left
   ·obtain rfl := Option.some.inj H;go_wp2
    repeat (go_quiet (fail);try go_wp2)
    go_ret;exact ⟨by first|rfl|(simp;done)|(simp [*];done),by repeat (first|exact Drawn0.refl _|apply Drawn0.step)⟩
   replace H := YN H;obtain ⟨c3b0,H⟩ := H;replace H := YN H;obtain ⟨c4b0,H⟩ := H;obtain ⟨ji5,hji5⟩ : ∃ j_ : Int,(wrap64 (x3_1 - 1)) = j_ := ⟨_,rfl⟩;replace H : (if 0 <= (ji5) then (if (ji5) < (l0.length : Int) then ((cmp_Less_int.f (rd l0 x3_1) (rd l0 (ji5))).bind fun t103 => (if t103 = true then (some false) else (slices_IsSorted_int.l0 k1 l0 ji5))) else (none)) else (none)) = some r := by first|(rw [hji5] at H;exact H)|(simp only [hji5] at H ⊢;exact H)
   have hji5w : (IntKind.i64.wrap (x3_1 - 1)) = ji5 := (i64_w _).trans hji5;replace H := YN H;obtain ⟨c6b0,H⟩ := H;replace H := YN H;obtain ⟨c7b0,H⟩ := H;replace H := YJ H;obtain ⟨t103,A8,H⟩ := H;by_cases c9 : t103 = true
   ·subst c9;rw [if_pos rfl] at H;obtain rfl := Option.some.inj H;have p101 : 0 <= (x3_1 : Int) := ZD;have q101 : x3_1 < (l0.length : Int) := ZD;obtain ⟨ad101,e101,hx101_0⟩ := Kd.at_int HR0.out x3_1 p101 q101;cases e101;replace p101 := eq_true p101;replace q101 := eq_true q101;have p102 : 0 <= ((ji5) : Int) := ZD;have q102 : (ji5) < (l0.length : Int) := ZD;obtain ⟨ad102,e102,hx102_0⟩ := Kd.at_int HR0.out (ji5) p102 q102;obtain rfl : ad101 = ad102 := (by injection e102);replace p102 := eq_true p102;replace q102 := eq_true q102
    go_wp2_with (first|(go_at_call 158;(with_reducible refine (cmp_Less_int.calls (rd l0 x3_1) (rd l0 (ji5)) true _ A8.out).mono ?_);rintro e w' ⟨rfl,⟨nd,rfl⟩⟩;(try first|exact ⟨rfl,_,World.drewN_drewN _ _ _⟩|exact ⟨rfl,_,YW _ _ _ _⟩)))
    repeat (go_quiet (first|(go_at_call 158;(with_reducible refine (cmp_Less_int.calls (rd l0 x3_1) (rd l0 (ji5)) true _ A8.out).mono ?_);rintro e w' ⟨rfl,⟨nd,rfl⟩⟩;(try first|exact ⟨rfl,_,World.drewN_drewN _ _ _⟩|exact ⟨rfl,_,YW _ _ _ _⟩)));try go_wp2_with (first|(go_at_call 158;(with_reducible refine (cmp_Less_int.calls (rd l0 x3_1) (rd l0 (ji5)) true _ A8.out).mono ?_);rintro e w' ⟨rfl,⟨nd,rfl⟩⟩;(try first|exact ⟨rfl,_,World.drewN_drewN _ _ _⟩|exact ⟨rfl,_,YW _ _ _ _⟩))))
    go_ret;exact ⟨by first|rfl|(simp;done)|(simp only [<- hji5] <;> (first|rfl|simp))|(simp [*];done),by repeat (first|exact Drawn0.refl _|apply Drawn0.step)⟩
   replace c9 := Bool.eq_false_iff.mpr c9;subst c9;rw [if_neg (show ¬ (false = true) by decide)] at H;have H' := ZA H;clear H;have p101 : 0 <= (x3_1 : Int) := ZD;have q101 : x3_1 < (l0.length : Int) := ZD;obtain ⟨ad101,e101,hx101_0⟩ := Kd.at_int HR0.out x3_1 p101 q101;cases e101;replace p101 := eq_true p101;replace q101 := eq_true q101;have p102 : 0 <= ((ji5) : Int) := ZD;have q102 : (ji5) < (l0.length : Int) := ZD;obtain ⟨ad102,e102,hx102_0⟩ := Kd.at_int HR0.out (ji5) p102 q102;obtain rfl : ad101 = ad102 := (by injection e102);replace p102 := eq_true p102;replace q102 := eq_true q102
   go_wp2_with (first|(go_at_call 158;(with_reducible refine (cmp_Less_int.calls (rd l0 x3_1) (rd l0 (ji5)) false _ A8.out).mono ?_);rintro e w' ⟨rfl,⟨nd,rfl⟩⟩;(try first|exact ⟨rfl,_,World.drewN_drewN _ _ _⟩|exact ⟨rfl,_,YW _ _ _ _⟩)))
   repeat (go_quiet (first|(go_at_call 158;(with_reducible refine (cmp_Less_int.calls (rd l0 x3_1) (rd l0 (ji5)) false _ A8.out).mono ?_);rintro e w' ⟨rfl,⟨nd,rfl⟩⟩;(try first|exact ⟨rfl,_,World.drewN_drewN _ _ _⟩|exact ⟨rfl,_,YW _ _ _ _⟩)));try go_wp2_with (first|(go_at_call 158;(with_reducible refine (cmp_Less_int.calls (rd l0 x3_1) (rd l0 (ji5)) false _ A8.out).mono ?_);rintro e w' ⟨rfl,⟨nd,rfl⟩⟩;(try first|exact ⟨rfl,_,World.drewN_drewN _ _ _⟩|exact ⟨rfl,_,YW _ _ _ _⟩))))
   go_roundg k1
   case measure => have := HK1.out;omega
   case rel => exact ⟨(ji5),(by first|rfl|(simp;done)|(simp only [<- hji5] <;> (first|rfl|simp))|(simp [*];done)),H',⟨by have := HK1.out;omega⟩,by repeat (first|exact Drawn0.refl _|apply Drawn0.step)⟩
end Go.Proofs.YtgnijnlgbelifaaGreat.Q
