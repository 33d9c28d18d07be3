import Derived.Test.YtgnijnlgbelifaaGreatQBSpecLeLessons
import Derived.Test.YtgnijnlgbelifaaGreatGUp
import Derived.WalkSpells
import Derived.Test.YtgnijnlgbelifaaGreatS0Nm231
import Derived.Shelf.GgClosure.Gives
import Derived.Lib.OwnBridge
import Derived.Test.YtgnijnlgbelifaaGreatS137
import Derived.Lib.Bytealg
namespace Go.Proofs.YtgnijnlgbelifaaGreat.Q
open Go.RowKit Go.Proofs.YtgnijnlgbelifaaGreatW.PrintWords Go.Proofs.YtgnijnlgbelifaaGreatW.PrintLast Go.Proofs.YtgnijnlgbelifaaGreatW.PrintMore Go.Proofs.YtgnijnlgbelifaaGreatW.GCall
attribute [local go_sem] Ebu Ebv Ecl Ecm Ebk Ebl Ebw Ebx
set_option linter.unusedVariables false
set_option linter.unusedSimpArgs false
def FE.l0 : Nat -> List Int -> Int -> Int -> Int -> Option (Int)
 | 0,_,_,_,_ => none
 | k + 1,x0,x1,x7,x8 => if x8 < x7 then (if 0 <= x8 then (if x8 < (x0.length : Int) then (if x1 = (rd x0 x8) then (some x8) else (FE.l0 k x0 x1 x7 (wrap64 (x8 + 1)))) else (none)) else (none)) else (some (-1))
def FE.f (k : Nat) (l0 : List Int) (a1 : Int) : Option (Int) := FE.l0 k l0 a1 (l0.length : Int) 0
set_option maxHeartbeats 3000000 in
set_option maxRecDepth 100000 in
theorem FE.calls (k : Nat) (A0 : Option Addr) (c0 : Nat) (l0 : List Int) (a1 : Int) (r : Int) (w : World) (s : Kd.C (Kd.int .i64) w A0 l0.length l0) (t : l0.length <= c0) (h : FE.f k l0 a1 = some r) :
  Calls Tryz.prog 70 #[.slice A0 l0.length c0,.int .i64 a1] w fun e w' => e = .returned (.int .i64 r) ∧ Drawn0 w w' := by
 have u := ZA s;have ac := ZA t;clear s t;have H : (FE.l0 k l0 a1 (l0.length : Int) 0) = some r := h;clear h;have H' := ZA H;clear H;go_enter Tryz.func70,Tryz.ntmps70;go_wp2
 go_loopg [8] k (fun kq v8 w' => ∃ (d : Int),v8 = .int .i64 d ∧ Aside0 (FE.l0 kq l0 a1 (l0.length : Int) d = some r) ∧ Aside0 (kq <= k) ∧ Drawn0 w w')
 case atStart => exact ⟨(0),ZG,H',⟨Nat.le_refl _⟩,by repeat (first|exact Drawn0.refl _|apply Drawn0.step)⟩
 case round =>
  clear H';obtain ⟨d,rfl,HA,v,⟨m1,rfl⟩⟩ := hrel;cases gk with
  | zero => exact absurd HA.out (by simp [FE.l0])
  | succ k1 =>
   have H := HA.out;clear HA;simp only [FE.l0] at H;replace H := YI H;rcases H with ⟨o,H⟩|⟨o,H⟩;rotate_left
   ·obtain rfl := Option.some.inj H;go_wp2;go_ret;exact ⟨by first|rfl|(simp;done)|(simp [*];done),by repeat (first|exact Drawn0.refl _|apply Drawn0.step)⟩
   replace H := YN H;obtain ⟨aa,H⟩ := H;replace H := YN H;obtain ⟨ab,H⟩ := H;by_cases c6 : a1 = (rd l0 d)
   ·rw [if_pos c6] at H;have p : (a1 == (rd l0 d)) = true := beq_iff_eq.mpr c6;have q : (a1 != (rd l0 d)) = false := bne_eq_false_iff_eq.mpr c6;clear c6;obtain rfl := Option.some.inj H;have g : 0 <= (d : Int) := ZD;have i : d < (l0.length : Int) := ZD;obtain ⟨n,m,j⟩ := Kd.Eav u.out d g i;cases m;replace g := eq_true g;replace i := eq_true i;go_wp2;go_ret;exact ⟨by first|rfl|(simp;done)|(simp [*];done),by repeat (first|exact Drawn0.refl _|apply Drawn0.step)⟩
   rw [if_neg c6] at H;have p : (a1 == (rd l0 d)) = false := beq_eq_false_iff_ne.mpr c6;have q : (a1 != (rd l0 d)) = true := bne_iff_ne.mpr c6;have H' := ZA H;clear H;have g : 0 <= (d : Int) := ZD;have i : d < (l0.length : Int) := ZD;obtain ⟨n,m,j⟩ := Kd.Eav u.out d g i;cases m;replace g := eq_true g;replace i := eq_true i;go_wp2
   go_roundg k1
   case measure => have := v.out;omega
   case rel => exact ⟨(wrap64 (d + 1)),ZG,H',⟨by have := v.out;omega⟩,by repeat (first|exact Drawn0.refl _|apply Drawn0.step)⟩
def FI.f (k : Nat) (l0 : List Int) (a1 : Int) : Option (Bool) := (FE.f k l0 a1).bind fun d => (some (decide (d >= 0)))
set_option maxHeartbeats 3000000 in
set_option maxRecDepth 100000 in
theorem FI.calls (k : Nat) (A0 : Option Addr) (c0 : Nat) (l0 : List Int) (a1 : Int) (r : Bool) (w : World) (g : Kd.C (Kd.int .i64) w A0 l0.length l0) (i : l0.length <= c0) (h : FI.f k l0 a1 = some r) :
  Calls Tryz.prog 91 #[.slice A0 l0.length c0,.int .i64 a1] w fun e w' => e = .returned (.bool r) ∧ Drawn0 w w' := by
 have j := ZA g;have m := ZA i;clear g i;have H : ((FE.f k l0 a1).bind fun d => (some (decide (d >= 0)))) = some r := h;clear h;replace H := YJ H;obtain ⟨d,A3,H⟩ := H;obtain rfl := Option.some.inj H;go_enter Tryz.func91,Tryz.ntmps91
 go_wp2_with (first|((with_reducible refine YG 70 ?_);refine YC (some 7) Tryz.func70 #[.slice A0 l0.length c0,.int .i64 a1] (FE.calls k _ _ l0 a1 d _ (ZR j.out) m.out A3.out) ?_;rintro e w' ⟨rfl,⟨nd,rfl⟩⟩;refine ⟨_,rfl,?_⟩))
 go_ret;exact ⟨by first|rfl|(simp;done)|(simp [*];done),by repeat (first|exact Drawn0.refl _|apply Drawn0.step)⟩
def FU.f (l0 : List Int) : Option (List Int) := (some (([] : List Int) : List Int)).bind fun d => (if d.length + l0.length < 17592186044416 then (some (d ++ l0)) else (none))
set_option maxHeartbeats 3000000 in
set_option maxRecDepth 100000 in
theorem FU.calls (A0 : Option Addr) (c0 : Nat) (l0 : List Int) (r : List Int) (w : World) (s : Kd.C (Kd.int .i64) w A0 l0.length l0) (D : l0.length <= c0) (h : FU.f l0 = some r) :
  Calls Tryz.prog 110 #[.slice A0 l0.length c0] w fun e w' => ∃ E : Value,e = .returned (E) ∧ Kd.R (Kd.int .i64) 3 w' w.heap.size (fun _ => True) E r ∧ Below w.heap.size w w' := by
 cases A0 with
 | none =>
  obtain rfl : l0 = [] := by
   rcases Nat.eq_zero_or_pos l0.length with t | t
   ·exact List.eq_nil_of_length_eq_zero t
   obtain ⟨_,e_,_⟩ := s.2.2 t;cases e_
  have hr_ : r = [] := by simp [FU.f] at h;first|exact h|exact h.symm
  subst hr_;have u := Tryz.underlying28;have hq_ := fun (w : World) (n c n' c' : Nat) => Lib.run_eql_slice_nil (P := Tryz.prog) w 28 3 none n c n' c' u
  go_enter Tryz.func110,Tryz.ntmps110;go_wp2;go_ret;exact ⟨.slice none 0 0,rfl,Kd.Edp _ _ _ _ _,Below.refl _ _⟩
 | some ad0_ =>
  have hu_ := Tryz.underlying28;have hq_ := fun (w : World) (n c n' c' : Nat) => Lib.run_eql_slice_nil (P := Tryz.prog) w 28 3 (some ad0_) n c n' c' hu_
  have G := ZA s;have ab := ZA D;clear s D;have HB := ZA (Below.refl w.heap.size w);have H := h;clear h;unfold FU.f at H;obtain ⟨i,d⟩ : ∃ y_ : List Int,y_ = (([] : List Int)) := ⟨_,rfl⟩;replace H : (if i.length + l0.length < 17592186044416 then (some (i ++ l0)) else (none)) = some r := YH d H;have j := ZA d;clear d;replace H := YM H;obtain ⟨c2,H⟩ := H;have v := ZA c2;clear c2;obtain ⟨y,g⟩ : ∃ y_ : List Int,y_ = (i ++ l0) := ⟨_,rfl⟩;replace H : (some y) = some r := YH g H;have o := ZA g;clear g;obtain rfl := Option.some.inj H;go_enter Tryz.func110,Tryz.ntmps110
  go_wp2_with (first|((with_reducible refine Eaf (N := 5) rfl ?_);refine Kd.Edz (Kd.int .i64) _ 3 ?hg (N := 5) ?hd (xs := ([] : List Int)) (inner := []) (ok := fun _ => True) (okp := fun _ => True) ?hr ?hp (fun _ hk => hk) trivial (Below.refl _ _) (Nat.le_refl _) (by simp) ?_;(case hd => rfl);(case hg => rfl);(case hr => first|(go_simp;done)|(go_simp;rfl));(case hp => exact (Reps.none _ _));intro z w3 p hb hg_ hnew_;clear hg_ hnew_;(first|rw [<- j.out] at p|(simp only [Int.reduceToNat] at p;rw [<- j.out] at p));have m := ZA (Kd.Eaz p (SZ HB));replace HB := BS HB hb;clear hb p)|((with_reducible refine Eao (b := .append) (xs := #[.tmp 5,.tmp 6]) rfl ?_);at_builtin;refine Kd.Ebg (Kd.int .i64) (w0 := w) w.heap.size rfl (.tmp 5) (.tmp 6) 28 3 (.int .i64 0) 8 rfl Tryz.underlying28 info3 rfl (by decide) (by omega) z i l0 _ _ _ (fun _ => True) (fun _ => False) rfl rfl (ZK m) (ZR (Kd.Eac G.out HB.out)) (fun _ _ h => h) (fun _ h => h.elim) (fun _ _ => trivial) (ZQ HB) (SZ HB) ?aL ?_;(case aL => have := v.out;omega);intro aa w5 ho hb hg hat;rw [<- o.out] at ho;replace HB := ZA (hb);have q := ZA (ho);clear m;clear ho hb hg hat))
  go_ret;exact ⟨_,YR,ZK q,ZQ HB⟩
def Fi.sorted (l : List Int) : List Int := l.mergeSort fun x y => decide (x <= y)
def Fi.f (l0 : List Int) : Option (List Int) := (FU.f l0).bind fun l1 => some (Lib.compact (Fi.sorted l1))
set_option maxHeartbeats 1000000
open Go.Lib Go.Sort
theorem Fi.nil_or {w : World} {base e n : Nat} {zs : List Int} (h : w.ownsRow base e 1 (.slice none 0 0) n (zs.map (Value.int .i64))) : zs = [] := by
 have hl : zs.length = n := by simpa using h.1
 rcases h.2 with ⟨_,h2⟩ | ⟨g,cap,cur,e0,_⟩
 ·exact List.eq_nil_of_length_eq_zero (by omega)
 cases e0
theorem Fi.sort (w : World) (base : Nat) (ok : Nat -> Prop) (v : Value) (l : List Int) (h : Kd.R (Kd.int .i64) 3 w base ok v l) (hl : l.length < 4611686018427387904) :
  Calls Tryz.prog 96 #[v] w fun e w' => e = .returned (.tuple #[]) ∧ Kd.R (Kd.int .i64) 3 w' base ok v (Fi.sorted l) ∧ ∀ B w0,B <= base -> Below B w0 w -> Below B w0 w' := by
 have ho : w.ownsRow base 3 1 v l.length (l.map (Value.int .i64)) := Kd.Ehj h;by_cases hv : v = .slice none 0 0
 ·subst hv;obtain rfl := Fi.nil_or ho;refine (Tryz.slices_Sort_int_none none 0 w).mono ?_;rintro e w' ⟨rfl,rfl⟩;exact ⟨rfl,by simpa [Fi.sorted] using h,fun _ _ _ hb => hb⟩
 obtain ⟨g,cap,rfl,hb,hlt,hn,hm,_,hH⟩ := Lib.holds_of_ownsRow ho hv;refine (Tryz.slices_Sort_int g 0 cap l w hH hlt hl).mono ?_;rintro e w' ⟨rfl,n,os,rfl⟩;have hlen : (Fi.sorted l).length = l.length := by simp [Fi.sorted]
 have h1 := Lib.ownsRow_putRow (q := n) (k := l.length) (ys := Fi.sorted l) ho hlen (Nat.le_refl _);rw [List.take_of_length_le (by omega)] at h1;have hbel := below_grown (putRow (Value.int .i64) (Sort.ahead w n) g 0 (Fi.sorted l).toArray) 0 os;refine ⟨rfl,?_,?_⟩
 ·have h2 : Kd.R (Kd.int .i64) 3 (putRow (Value.int .i64) (Sort.ahead w n) g 0 (Fi.sorted l).toArray) base ok (.slice (some ⟨g,0,none⟩) l.length cap) (Fi.sorted l) := Kd.Ehi (by rw [hlen];exact h1) h.1;exact Kd.Ebj h2 hbel
 intro B w0 hB f;have hp := Lib.below_putRow (enc := Value.int .i64) (q := n) (d := (Fi.sorted l).toArray) f (Nat.le_trans hB hb);have hz : (putRow (Value.int .i64) (Sort.ahead w n) g 0 (Fi.sorted l).toArray).heap.size = w.heap.size := by simp [putRow,mapBlock,Sort.ahead]
 exact hp.trans (hbel.mono (by rw [hz];omega))
theorem Fi.comp (w : World) (base : Nat) (ok : Nat -> Prop) (v : Value) (l : List Int) (h : Kd.R (Kd.int .i64) 3 w base ok v l) (hl : l.length <= 9223372036854775807) :
  Calls Tryz.prog 148 #[v] w fun e w' => ∃ v1,e = .returned v1 ∧ Kd.R (Kd.int .i64) 3 w' base ok v1 (Lib.compact l) ∧ ∀ B w0,B <= base -> Below B w0 w -> Below B w0 w' := by
 have ho : w.ownsRow base 3 1 v l.length (l.map (Value.int .i64)) := Kd.Ehj h;by_cases hv : v = .slice none 0 0
 ·subst hv;obtain rfl := Fi.nil_or ho;refine (Tryz.slices_Compact_int_empty none 0 w).mono ?_;rintro e w' ⟨rfl,rfl⟩;exact ⟨_,rfl,h,fun _ _ _ hb => hb⟩
 obtain ⟨g,cap,rfl,hb,hlt,hn,hm,_,hH⟩ := Lib.holds_of_ownsRow ho hv;refine (Tryz.slices_Compact_int g 0 cap l w hH hl hn).mono ?_;rintro e w' ⟨rfl,q,rfl⟩;have hlen : (Lib.compact l).length <= l.length := Lib.compact_length_le l;have h1 := Lib.ownsRow_putRow (q := q) (k := (Lib.compact l).length) (ys := Lib.compact l ++ List.replicate (l.length - (Lib.compact l).length) 0) ho (by simp;omega) hlen;rw [List.take_left] at h1;exact ⟨_,rfl,Kd.Ehi h1 (fun k hk => h.1 k hk),fun B w0 hB d => Lib.below_putRow d (Nat.le_trans hB hb)⟩
set_option maxHeartbeats 1000000 in
theorem Fi.calls (A0 : Option Addr) (c0 : Nat) (l0 : List Int) (r : List Int) (w : World) (g : Kd.C (Kd.int .i64) w A0 l0.length l0) (n : l0.length <= c0) (h : Fi.f l0 = some r) :
  Calls Tryz.prog 100 #[.slice A0 l0.length c0] w fun e w' => ∃ d : Value,e = .returned d ∧ Kd.R (Kd.int .i64) 3 w' w.heap.size (fun _ => True) d r ∧ Below w.heap.size w w' := by
 unfold Fi.f at h;obtain ⟨l1,hc,h2⟩ := ZI h;obtain rfl := Option.some.inj h2;clear h h2;have i : l1.length < 17592186044416 := by
  unfold FU.f at hc;simp only [Option.bind_some,List.length_nil,Nat.zero_add,List.nil_append] at hc
  split at hc
  ·obtain rfl := Option.some.inj hc
   assumption
  cases hc
 have j : (Fi.sorted l1).length <= 9223372036854775807 := by simp [Fi.sorted];omega
 have HCL := ZA (FU.calls A0 c0 l0 l1 w g n hc);have HL := ZA i;have m := ZA j;clear g hc i j;generalize hg : Fi.sorted l1 = l2 at m ⊢;have HG := ZA hg;clear hg;go_enter Tryz.func100,Tryz.ntmps100
 go_wp2_with (first|(go_at_call 110;refine HCL.out.mono ?_;rintro e w1 ⟨d,rfl,ho,hb⟩;have HO := ZA ho;have HB := ZA hb;clear ho hb HCL)|(go_at_call 96;refine (Fi.sort _ _ _ _ _ (ZK HO) (Nat.lt_trans HL.out (by decide))).mono ?_;rintro e w2 ⟨rfl,ho,hb⟩;replace HO := ZA ho;replace HB := ZA (hb _ _ (Nat.le_refl _) (ZQ HB));clear ho hb)|(go_at_call 148;refine (Fi.comp _ _ _ _ _ (ZK HO) (by rw [HG.out];exact m.out)).mono ?_;rintro e w3 ⟨aa,rfl,ho,hb⟩;replace HO := ZA ho;replace HB := ZA (hb _ _ (Nat.le_refl _) (ZQ HB));clear ho hb))
 go_ret;exact ⟨_,rfl,by rw [<- HG.out];exact HO.out,HB.out⟩
def GP.f (a0 : ByteArray) (a1 : Int) : Option (Int) := some (Lib.indexByte a0.data.toList a1.toNat.toUInt8)
theorem GP.calls (a0 : ByteArray) (a1 : Int) (r : Int) (w : World) (h : GP.f a0 a1 = some r) :
  Calls Tryz.prog 194 #[.string a0,.int .u8 a1] w fun e w' => e = .returned (.int .i64 r) ∧ Drawn0 w w' := by
 obtain rfl := Option.some.inj h;refine (Tryz.strings_IndexByte a0 a1 w).mono ?_;rintro e w' ⟨rfl,rfl⟩;exact ⟨rfl,Drawn0.refl _⟩
def FX.l0 : Nat -> ByteArray -> ByteArray -> Int -> Int -> Option (Bool)
 | 0,_,_,_,_ => none
 | k + 1,x0,x1,x7,x8 => if x8 < x7 then (if 0 <= x8 then (if x8 < (x0.size : Int) then ((GP.f x1 (bt x0 x8)).bind fun d => (if d < 0 then (some false) else (FX.l0 k x0 x1 x7 (wrap64 (x8 + 1))))) else (none)) else (none)) else (some true)
def FX.f (k : Nat) (a0 : ByteArray) (a1 : ByteArray) : Option (Bool) := FX.l0 k a0 a1 (a0.size : Int) 0
set_option maxHeartbeats 3000000 in
set_option maxRecDepth 100000 in
theorem FX.calls (k : Nat) (a0 : ByteArray) (a1 : ByteArray) (r : Bool) (w : World) (h : FX.f k a0 a1 = some r) :
  Calls Tryz.prog 182 #[.string a0,.string a1] w fun e w' => e = .returned (.bool r) ∧ Drawn0 w w' := by
 have H : (FX.l0 k a0 a1 (a0.size : Int) 0) = some r := h;clear h;have H' := ZA H;clear H;go_enter Tryz.func182,Tryz.ntmps182;go_wp2
 go_loopg [8] k (fun kq v8 w' => ∃ (d : Int),v8 = .int .i64 d ∧ Aside0 (FX.l0 kq a0 a1 (a0.size : Int) d = some r) ∧ Aside0 (kq <= k) ∧ Drawn0 w w')
 case atStart => exact ⟨(0),ZG,H',⟨Nat.le_refl _⟩,by repeat (first|exact Drawn0.refl _|apply Drawn0.step)⟩
 case round =>
  clear H';obtain ⟨d,rfl,HA,m,⟨m1,rfl⟩⟩ := hrel;cases gk with
  | zero => exact absurd HA.out (by simp [FX.l0])
  | succ k1 =>
   have H := HA.out;clear HA;simp only [FX.l0] at H;replace H := YI H;rcases H with ⟨i,H⟩|⟨i,H⟩;rotate_left
   ·obtain rfl := Option.some.inj H;go_wp2;go_ret;exact ⟨by first|rfl|(simp;done)|(simp [*];done),by repeat (first|exact Drawn0.refl _|apply Drawn0.step)⟩
   replace H := YN H;obtain ⟨aa,H⟩ := H;replace H := YN H;obtain ⟨ab,H⟩ := H;replace H := YJ H;obtain ⟨g,A7,H⟩ := H;by_cases c8 : g < 0
   ·rw [if_pos c8] at H;have j := decide_eq_true c8;clear c8;obtain rfl := Option.some.inj H;have p6 : 0 <= (d : Int) := ZD;have q6 : d < (a0.size : Int) := ZD;have n := Eij a0 d;replace p6 := eq_true p6;replace q6 := eq_true q6
    go_wp2_with (first|((with_reducible refine YG 194 ?_);refine YC (some 15) Tryz.func194 #[.string a1,.int .u8 (bt a0 d)] (GP.calls a1 (bt a0 d) g _ A7.out) ?_;rintro e w' ⟨rfl,⟨nd,rfl⟩⟩;refine ⟨_,rfl,?_⟩))
    go_ret;exact ⟨by first|rfl|(simp;done)|(simp [*];done),by repeat (first|exact Drawn0.refl _|apply Drawn0.step)⟩
   rw [if_neg c8] at H;have j := decide_eq_false c8;clear c8;have H' := ZA H;clear H;have p6 : 0 <= (d : Int) := ZD;have q6 : d < (a0.size : Int) := ZD;have n := Eij a0 d;replace p6 := eq_true p6;replace q6 := eq_true q6
   go_wp2_with (first|((with_reducible refine YG 194 ?_);refine YC (some 15) Tryz.func194 #[.string a1,.int .u8 (bt a0 d)] (GP.calls a1 (bt a0 d) g _ A7.out) ?_;rintro e w' ⟨rfl,⟨nd,rfl⟩⟩;refine ⟨_,rfl,?_⟩))
   go_roundg k1
   case measure => have := m.out;omega
   case rel => exact ⟨(wrap64 (d + 1)),ZG,H',⟨by have := m.out;omega⟩,by repeat (first|exact Drawn0.refl _|apply Drawn0.step)⟩
def Lb.f (k : Nat) (a0 : ByteArray) (a1 : ByteArray) : Option (Bool) := (Fr.f (a0.size : Int) 1 8).bind fun d => (if d = true then ((FX.f k a0 a1).bind fun g => (some g)) else (some false))
set_option maxHeartbeats 3000000 in
set_option maxRecDepth 100000 in
theorem Lb.calls (k : Nat) (a0 : ByteArray) (a1 : ByteArray) (r : Bool) (w : World) (h : Lb.f k a0 a1 = some r) :
  Calls Tryz.prog 157 #[.string a0,.string a1] w fun e w' => e = .returned (.bool r) ∧ Drawn0 w w' := by
 have H := h;clear h;unfold Lb.f at H;replace H := YJ H;obtain ⟨aa,A3,H⟩ := H;replace H := YF H;rcases H with ⟨rfl,H⟩|⟨rfl,H⟩;rotate_left
 ·obtain rfl := Option.some.inj H;go_enter Tryz.func157,Tryz.ntmps157
  go_wp2_with (first|((with_reducible refine YG 62 ?_);refine YC (some 7) Tryz.func62 #[.int .i64 (a0.size : Int),.int .i64 1,.int .i64 8] (Fr.calls (a0.size : Int) 1 8 false _ A3.out) ?_;rintro e w' ⟨rfl,⟨nd,rfl⟩⟩;refine ⟨_,rfl,?_⟩))
  go_ret;exact ⟨by first|rfl|(simp;done)|(simp [*];done),by repeat (first|exact Drawn0.refl _|apply Drawn0.step)⟩
 replace H := YJ H;obtain ⟨d,A5,H⟩ := H;obtain rfl := Option.some.inj H;go_enter Tryz.func157,Tryz.ntmps157
 go_wp2_with (first|((with_reducible refine YG 62 ?_);refine YC (some 7) Tryz.func62 #[.int .i64 (a0.size : Int),.int .i64 1,.int .i64 8] (Fr.calls (a0.size : Int) 1 8 true _ A3.out) ?_;rintro e w' ⟨rfl,⟨nd,rfl⟩⟩;refine ⟨_,rfl,?_⟩)|(go_at_call 182;(with_reducible refine (FX.calls k a0 a1 d _ A5.out).mono ?_);rintro e w' ⟨rfl,⟨nd,rfl⟩⟩))
 go_ret;exact ⟨by first|rfl|(simp;done)|(simp [*];done),by repeat (first|exact Drawn0.refl _|apply Drawn0.step)⟩
def GS.f (k : Nat) (a0 : ByteArray) : Option (Bool) := (Lb.f k a0 (⟨#[65,66,67,68,69,70,71,72,73,74,75,76,77,78,79,80,81,82,83,84,85,86,87,88,89,90]⟩ : ByteArray)).bind fun d => (some d)
set_option maxHeartbeats 3000000 in
set_option maxRecDepth 100000 in
theorem GS.calls (k : Nat) (a0 : ByteArray) (r : Bool) (w : World) (h : GS.f k a0 = some r) :
  Calls Tryz.prog 127 #[.string a0] w fun e w' => e = .returned (.bool r) ∧ Drawn0 w w' := by
 have H := h;clear h;unfold GS.f at H;replace H := YJ H;obtain ⟨d,A2,H⟩ := H;obtain rfl := Option.some.inj H;go_enter Tryz.func127,Tryz.ntmps127
 go_wp2_with (first|((with_reducible refine Eb (f := 157) rfl ?_);refine Ecq (some 4) rfl rfl Tryz.func157 (by kernel_rfl) rfl #[.string a0,.string (⟨#[65,66,67,68,69,70,71,72,73,74,75,76,77,78,79,80,81,82,83,84,85,86,87,88,89,90]⟩ : ByteArray)] rfl (by (try simp only [List.map_toArray,List.map_cons,List.map_nil]);first|done|rfl|(simp only [List.length_drop,List.length_take];rfl)) ?_;(with_reducible refine (Lb.calls k a0 (⟨#[65,66,67,68,69,70,71,72,73,74,75,76,77,78,79,80,81,82,83,84,85,86,87,88,89,90]⟩ : ByteArray) d _ A2.out).mono ?_);rintro e w' ⟨rfl,⟨nd,rfl⟩⟩;refine ⟨_,rfl,?_⟩))
 go_ret;exact ⟨by first|rfl|(simp;done)|(simp [*];done),by repeat (first|exact Drawn0.refl _|apply Drawn0.step)⟩
def GO.f (a0 : Int) : Option (Bool) := some (a0 != a0)
set_option maxHeartbeats 3000000 in
set_option maxRecDepth 100000 in
theorem GO.calls (a0 : Int) (r : Bool) (w : World) (h : GO.f a0 = some r) :
  Calls Tryz.prog 183 #[.int .i64 a0] w fun e w' => e = .returned (.bool r) ∧ Drawn0 w w' := by
 have H : (some (a0 != a0)) = some r := h;clear h;obtain rfl := Option.some.inj H;go_enter Tryz.func183,Tryz.ntmps183;go_wp2;go_ret;exact ⟨by first|rfl|(simp;done)|(simp [*];done),by repeat (first|exact Drawn0.refl _|apply Drawn0.step)⟩
def GJ.f (a0 : Int) (a1 : Int) : Option (Bool) := (GO.f a0).bind fun d => (if d = true then ((GO.f a1).bind fun g => (if g = true then (some (decide (a0 < a1))) else (some true))) else (some (decide (a0 < a1))))
set_option maxHeartbeats 3000000 in
set_option maxRecDepth 100000 in
theorem GJ.calls (a0 : Int) (a1 : Int) (r : Bool) (w : World) (h : GJ.f a0 a1 = some r) :
  Calls Tryz.prog 158 #[.int .i64 a0,.int .i64 a1] w fun e w' => e = .returned (.bool r) ∧ Drawn0 w w' := by
 have H := h;clear h;unfold GJ.f at H;replace H := YJ H;obtain ⟨aa,A3,H⟩ := H;replace H := YF H;rcases H with ⟨rfl,H⟩|⟨rfl,H⟩;rotate_left
 ·obtain rfl := Option.some.inj H;go_enter Tryz.func158,Tryz.ntmps158
  go_wp2_with (first|((with_reducible refine YG 183 ?_);refine YC (some 6) Tryz.func183 #[.int .i64 a0] (GO.calls a0 false _ A3.out) ?_;rintro e w' ⟨rfl,⟨nd,rfl⟩⟩;refine ⟨_,rfl,?_⟩))
  go_ret;exact ⟨by first|rfl|(simp;done)|(simp [*];done),by repeat (first|exact Drawn0.refl _|apply Drawn0.step)⟩
 replace H := YJ H;obtain ⟨d,A5,H⟩ := H;by_cases c6 : d = true
 ·subst c6;rw [if_pos rfl] at H;obtain rfl := Option.some.inj H;go_enter Tryz.func158,Tryz.ntmps158
  go_wp2_with (first|((with_reducible refine YG 183 ?_);refine YC (some 6) Tryz.func183 #[.int .i64 a0] (GO.calls a0 true _ A3.out) ?_;rintro e w' ⟨rfl,⟨nd,rfl⟩⟩;refine ⟨_,rfl,?_⟩)|(go_at_call 183;(with_reducible refine (GO.calls a1 true _ A5.out).mono ?_);rintro e w' ⟨rfl,⟨nd,rfl⟩⟩))
  go_ret;exact ⟨by first|rfl|(simp;done)|(simp [*];done),by repeat (first|exact Drawn0.refl _|apply Drawn0.step)⟩
 replace c6 := Bool.eq_false_iff.mpr c6;subst c6;rw [if_neg (show ¬ (false = true) by decide)] at H;obtain rfl := Option.some.inj H;go_enter Tryz.func158,Tryz.ntmps158
 go_wp2_with (first|((with_reducible refine YG 183 ?_);refine YC (some 6) Tryz.func183 #[.int .i64 a0] (GO.calls a0 true _ A3.out) ?_;rintro e w' ⟨rfl,⟨nd,rfl⟩⟩;refine ⟨_,rfl,?_⟩)|(go_at_call 183;(with_reducible refine (GO.calls a1 false _ A5.out).mono ?_);rintro e w' ⟨rfl,⟨nd,rfl⟩⟩))
 go_ret;exact ⟨by first|rfl|(simp;done)|(simp [*];done),by repeat (first|exact Drawn0.refl _|apply Drawn0.step)⟩
def Fz.l0 : Nat -> List Int -> Int -> Option (Bool)
 | 0,_,_ => none
 | k + 1,x0,x3 => if x3 > 0 then (if 0 <= x3 then (if x3 < (x0.length : Int) then (if 0 <= (wrap64 (x3 - 1)) then (if (wrap64 (x3 - 1)) < (x0.length : Int) then ((GJ.f (rd x0 x3) (rd x0 (wrap64 (x3 - 1)))).bind fun d => (if d = true then (some false) else (Fz.l0 k x0 (wrap64 (x3 - 1))))) else (none)) else (none)) else (none)) else (none)) else (some true)
def Fz.f (k : Nat) (l0 : List Int) : Option (Bool) := Fz.l0 k l0 (wrap64 ((l0.length : Int) - 1))
set_option maxHeartbeats 3000000 in
set_option maxRecDepth 100000 in
theorem Fz.calls (k : Nat) (A0 : Option Addr) (c0 : Nat) (l0 : List Int) (r : Bool) (w : World) (E : Kd.C (Kd.int .i64) w A0 l0.length l0) (G : l0.length <= c0) (h : Fz.f k l0 = some r) :
  Calls Tryz.prog 128 #[.slice A0 l0.length c0] w fun e w' => e = .returned (.bool r) ∧ Drawn0 w w' := by
 have z := ZA E;have af := ZA G;clear E G;have H : (Fz.l0 k l0 (wrap64 ((l0.length : Int) - 1))) = some r := h;clear h;have H' := ZA H;clear H;go_enter Tryz.func128,Tryz.ntmps128;go_wp2
 repeat (go_quiet (fail);try go_wp2)
 go_loopg [3] k (fun kq v3 w' => ∃ (d : Int),v3 = .int .i64 d ∧ Aside0 (Fz.l0 kq l0 d = some r) ∧ Aside0 (kq <= k) ∧ Drawn0 w w')
 case atStart => exact ⟨(wrap64 ((l0.length : Int) - 1)),ZG,H',⟨Nat.le_refl _⟩,by repeat (first|exact Drawn0.refl _|apply Drawn0.step)⟩
 case round =>
  clear H';obtain ⟨d,rfl,HA,I,⟨m1,rfl⟩⟩ := hrel;cases gk with
  | zero => exact absurd HA.out (by simp [Fz.l0])
  | succ k1 =>
   have H := HA.out;clear HA;simp only [Fz.l0] at H;replace H := YI H;rcases H with ⟨D,H⟩|⟨D,H⟩;rotate_left
   ·obtain rfl := Option.some.inj H;go_wp2
    repeat (go_quiet (fail);try go_wp2)
    go_ret;exact ⟨by first|rfl|(simp;done)|(simp [*];done),by repeat (first|exact Drawn0.refl _|apply Drawn0.step)⟩
   replace H := YN H;obtain ⟨ab,H⟩ := H;replace H := YN H;obtain ⟨ac,H⟩ := H;obtain ⟨g,o⟩ : ∃ j_ : Int,(wrap64 (d - 1)) = j_ := ⟨_,rfl⟩;replace H : (if 0 <= (g) then (if (g) < (l0.length : Int) then ((GJ.f (rd l0 d) (rd l0 (g))).bind fun u => (if u = true then (some false) else (Fz.l0 k1 l0 g))) else (none)) else (none)) = some r := by first|(rw [o] at H;exact H)|(simp only [o] at H ⊢;exact H)
   have aa : (IntKind.i64.wrap (d - 1)) = g := (Ecw _).trans o;replace H := YN H;obtain ⟨ad,H⟩ := H;replace H := YN H;obtain ⟨ae,H⟩ := H;replace H := YJ H;obtain ⟨u,A8,H⟩ := H;by_cases c9 : u = true
   ·subst c9;rw [if_pos rfl] at H;obtain rfl := Option.some.inj H;have i : 0 <= (d : Int) := ZD;have j : d < (l0.length : Int) := ZD;obtain ⟨p,v,s⟩ := Kd.Eav z.out d i j;cases v;replace i := eq_true i;replace j := eq_true j;have m : 0 <= ((g) : Int) := ZD;have n : (g) < (l0.length : Int) := ZD;obtain ⟨q,y,t⟩ := Kd.Eav z.out (g) m n;obtain rfl : p = q := (by injection y);replace m := eq_true m;replace n := eq_true n
    go_wp2_with (first|(go_at_call 158;(with_reducible refine (GJ.calls (rd l0 d) (rd l0 (g)) true _ A8.out).mono ?_);rintro e w' ⟨rfl,⟨nd,rfl⟩⟩;(try first|exact ⟨rfl,_,World.drewN_drewN _ _ _⟩|exact ⟨rfl,_,YW _ _ _ _⟩)))
    repeat (go_quiet (first|(go_at_call 158;(with_reducible refine (GJ.calls (rd l0 d) (rd l0 (g)) true _ A8.out).mono ?_);rintro e w' ⟨rfl,⟨nd,rfl⟩⟩;(try first|exact ⟨rfl,_,World.drewN_drewN _ _ _⟩|exact ⟨rfl,_,YW _ _ _ _⟩)));try go_wp2_with (first|(go_at_call 158;(with_reducible refine (GJ.calls (rd l0 d) (rd l0 (g)) true _ A8.out).mono ?_);rintro e w' ⟨rfl,⟨nd,rfl⟩⟩;(try first|exact ⟨rfl,_,World.drewN_drewN _ _ _⟩|exact ⟨rfl,_,YW _ _ _ _⟩))))
    go_ret;exact ⟨by first|rfl|(simp;done)|(simp only [<- o] <;> (first|rfl|simp))|(simp [*];done),by repeat (first|exact Drawn0.refl _|apply Drawn0.step)⟩
   replace c9 := Bool.eq_false_iff.mpr c9;subst c9;rw [if_neg (show ¬ (false = true) by decide)] at H;have H' := ZA H;clear H;have i : 0 <= (d : Int) := ZD;have j : d < (l0.length : Int) := ZD;obtain ⟨p,v,s⟩ := Kd.Eav z.out d i j;cases v;replace i := eq_true i;replace j := eq_true j;have m : 0 <= ((g) : Int) := ZD;have n : (g) < (l0.length : Int) := ZD;obtain ⟨q,y,t⟩ := Kd.Eav z.out (g) m n;obtain rfl : p = q := (by injection y);replace m := eq_true m;replace n := eq_true n
   go_wp2_with (first|(go_at_call 158;(with_reducible refine (GJ.calls (rd l0 d) (rd l0 (g)) false _ A8.out).mono ?_);rintro e w' ⟨rfl,⟨nd,rfl⟩⟩;(try first|exact ⟨rfl,_,World.drewN_drewN _ _ _⟩|exact ⟨rfl,_,YW _ _ _ _⟩)))
   repeat (go_quiet (first|(go_at_call 158;(with_reducible refine (GJ.calls (rd l0 d) (rd l0 (g)) false _ A8.out).mono ?_);rintro e w' ⟨rfl,⟨nd,rfl⟩⟩;(try first|exact ⟨rfl,_,World.drewN_drewN _ _ _⟩|exact ⟨rfl,_,YW _ _ _ _⟩)));try go_wp2_with (first|(go_at_call 158;(with_reducible refine (GJ.calls (rd l0 d) (rd l0 (g)) false _ A8.out).mono ?_);rintro e w' ⟨rfl,⟨nd,rfl⟩⟩;(try first|exact ⟨rfl,_,World.drewN_drewN _ _ _⟩|exact ⟨rfl,_,YW _ _ _ _⟩))))
   go_roundg k1
   case measure => have := I.out;omega
   case rel => exact ⟨(g),(by first|rfl|(simp;done)|(simp only [<- o] <;> (first|rfl|simp))|(simp [*];done)),H',⟨by have := I.out;omega⟩,by repeat (first|exact Drawn0.refl _|apply Drawn0.step)⟩
end Go.Proofs.YtgnijnlgbelifaaGreat.Q
