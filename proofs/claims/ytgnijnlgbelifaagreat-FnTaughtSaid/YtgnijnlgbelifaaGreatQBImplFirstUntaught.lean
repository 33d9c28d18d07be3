import Derived.Test.YtgnijnlgbelifaaGreatQBSpecL1CurWordIn
import Derived.Test.YtgnijnlgbelifaaGreatGUp
namespace Go.Proofs.YtgnijnlgbelifaaGreat.Q
open Go.RowKit Go.Proofs.YtgnijnlgbelifaaGreatW.PrintWords Go.Proofs.YtgnijnlgbelifaaGreatW.PrintLast Go.Proofs.YtgnijnlgbelifaaGreatW.PrintMore Go.Proofs.YtgnijnlgbelifaaGreatW.GCall
attribute [local go_sem] max2_int min2_int max_two min_two max_three min_three max_four min_four
set_option linter.unusedVariables false
set_option maxHeartbeats 3000000
set_option maxRecDepth 100000
set_option linter.unusedSimpArgs false
mutual
def impl_FirstUntaught.j0 : Nat -> List (S41) -> List (List Int) -> Bool -> Option (Int × Int × Bool)
 | 0,_,_,_ => none
 | k + 1,x0,x1,x37 => if x37 = true then (some (0,0,false)) else (impl_FirstUntaught.l0 k x0 x1 x1 (x1.length : Int) 0)
def impl_FirstUntaught.l0 : Nat -> List (S41) -> List (List Int) -> List (List Int) -> Int -> Int -> Option (Int × Int × Bool)
 | 0,_,_,_,_,_ => none
 | k + 1,x0,x1,x38,x39,x40 => if x40 < x39 then (if 0 <= x40 then (if x40 < (x38.length : Int) then (impl_FirstUntaught.l1 k x0 x1 x40 x38 x39 x40 (rd_L2 x38 x40) ((rd_L2 x38 x40).length : Int) 0) else (none)) else (none)) else (some (0,0,false))
def impl_FirstUntaught.l1 : Nat -> List (S41) -> List (List Int) -> Int -> List (List Int) -> Int -> Int -> List Int -> Int -> Int -> Option (Int × Int × Bool)
 | 0,_,_,_,_,_,_,_,_,_ => none
 | k + 1,x0,x1,x8,x38,x39,x40,x45,x46,x47 => if x47 < x46 then (if 0 <= x47 then (if x47 < (x45.length : Int) then (if 0 <= (rd x45 x47) then (if (rd x45 x47) < (x0.length : Int) then (if 0 <= x8 then (if x8 <= (x1.length : Int) then ((slices_Concat_int.f k (x1.take (x8 : Int).toNat)).bind fun t116 => ((impl_hasNeeds.f k ((rd_T41 x0 (rd x45 x47)).f0) ((rd_T41 x0 (rd x45 x47)).f1) ((rd_T41 x0 (rd x45 x47)).f2) t116).bind fun t119 => (if t119 = true then (impl_FirstUntaught.l1 k x0 x1 x8 x38 x39 x40 x45 x46 (wrap64 (x47 + 1))) else (some (x8,rd x45 x47,true))))) else (none)) else (none)) else (none)) else (none)) else (none)) else (none)) else (impl_FirstUntaught.l0 k x0 x1 x38 x39 (wrap64 (x40 + 1)))
end
def impl_FirstUntaught.f (k : Nat) (l0 : List (S41)) (l1 : List (List Int)) : Option (Int × Int × Bool) := (slices_Concat_int.f k l1).bind fun t101 => ((impl_AreWords.f k l0).bind fun t104 => (if t104 = true then (if (l1.length : Int) > 16 then (impl_FirstUntaught.j0 k l0 l1 true) else ((impl_allWithin.f t101 0 (wrap64 ((l0.length : Int) - 1))).bind fun t105 => (if t105 = true then ((impl_distinct_int.f t101).bind fun t106 => (impl_FirstUntaught.j0 k l0 l1 ((t106.length : Int) != (t101.length : Int)))) else (impl_FirstUntaught.j0 k l0 l1 true)))) else (impl_FirstUntaught.j0 k l0 l1 true)))
def impl_FirstUntaught.T10 : Bool × List (List Nat × List Nat) := (true,[([],[]),([],[]),([0,1],[0,1]),([2],[2]),([],[]),([],[]),([4,5],[4,5]),([6],[6]),([3,7,7],[3,7]),([8],[8])])
def impl_FirstUntaught.B10 : List Nat := [0,0,3,7,0,0,48,112,255,511]
theorem impl_FirstUntaught.tab10 : rtab .any (opsOf Tryz.f39 10) = impl_FirstUntaught.T10 := by kernel_rfl
theorem impl_FirstUntaught.bits10 : waitsOk impl_FirstUntaught.T10.2 impl_FirstUntaught.B10 = true := by kernel_rfl
theorem impl_FirstUntaught.calls (k : Nat) (A0 : Option Addr) (c0 : Nat) (l0 : List (S41)) (A1 : Option Addr) (c1 : Nat) (l1 : List (List Int)) (r1 : Int) (r2 : Int) (r3 : Bool) (w : World) (hr0 : Kd.C k41 w A0 l0.length l0) (hc0 : l0.length <= c0) (hr1 : Kd.C (Kd.slice 3 (Kd.int .i64)) w A1 l1.length l1) (hc1 : l1.length <= c1) (h : impl_FirstUntaught.f k l0 l1 = some (r1,r2,r3)) :
  Calls Tryz.prog 39 #[.slice A0 l0.length c0,.slice A1 l1.length c1] w fun e w' => e = .returned (.tuple #[.int .i64 r1,.int .i64 r2,.bool r3]) ∧ Below w.heap.size w w' := by
 have hu41 := Tryz.underlying41;have HR0 := ZA hr0;have HC0 := ZA hc0;clear hr0 hc0;have HR1 := ZA hr1;have HC1 := ZA hc1;clear hr1 hc1;have HB := ZA (Below.refl w.heap.size w);have H := h;clear h;unfold impl_FirstUntaught.f at H;replace H := YJ H;obtain ⟨t101,A3,H⟩ := H;have HC4 := ZA H;clear H;go_enter Tryz.func39,Tryz.ntmps39
 go_upto_region 2 with (first|((with_reducible refine YG 86 ?_);refine YC (some 13) Tryz.func86 #[.slice A1 l1.length c1] (slices_Concat_int.calls k _ _ l1 t101 _ (ZR HR1.out) HC1.out A3.out) ?_;rintro e w5 ⟨v102,rfl,ho0,hb⟩;refine ⟨_,rfl,?_⟩;have HO103 := ZA (Kd.R_lower ho0 (SZ HB));replace HB := BS HB hb))
 (try simp only [Act.put,zuA,zuB,zuC])
 go_cut [37] (fun v37 wc => ∃ (kq : Nat) (x37_3 : Bool),v37 = .bool x37_3 ∧ Aside0 (impl_FirstUntaught.j0 kq l0 l1 x37_3 = some (r1,r2,r3)) ∧ Aside0 (kq <= k) ∧ Aside0 (Below w.heap.size w wc))
 case first =>
  have H := HC4.out;clear HC4;replace H := YJ H;obtain ⟨t104,A6,H⟩ := H;replace H := YF H;rcases H with ⟨rfl,H⟩|⟨rfl,H⟩;rotate_left
  ·have H' := ZA H;clear H
   go_wp2_with (first|((with_reducible refine YG 73 ?_);refine YC (some 15) Tryz.func73 #[.slice A0 l0.length c0] (impl_AreWords.calls k _ _ l0 false _ (ZR (Kd.C_below HR0.out HB.out)) HC0.out A6.out) ?_;rintro e w21 ⟨rfl,hb⟩;refine ⟨_,rfl,?_⟩;replace HO103 := ZBR HO103 hb;replace HB := BS HB hb))
   go_meet
   case rel => exact ⟨_,(true),ZG,H',⟨YO⟩,⟨ZQ HB⟩⟩
  by_cases c8 : (l1.length : Int) > 16
  ·rw [if_pos c8] at H;have c8b0 := decide_eq_true c8;have c8b1 : decide (16 < l1.length) = true := decide_eq_true (by omega);clear c8
   (first|rw [c8b0]|rw [c8b1]|(simp only [i64_w,i32_w];rw [c8b0])|skip)
   have H' := ZA H;clear H
   go_wp2_with (first|((with_reducible refine YG 73 ?_);refine YC (some 15) Tryz.func73 #[.slice A0 l0.length c0] (impl_AreWords.calls k _ _ l0 true _ (ZR (Kd.C_below HR0.out HB.out)) HC0.out A6.out) ?_;rintro e w9 ⟨rfl,hb⟩;refine ⟨_,rfl,?_⟩;replace HO103 := ZBR HO103 hb;replace HB := BS HB hb))
   go_meet
   case rel => exact ⟨_,(true),ZG,H',⟨YO⟩,⟨ZQ HB⟩⟩
  rw [if_neg c8] at H;have c8b0 := decide_eq_false c8;have c8b1 : decide (16 < l1.length) = false := decide_eq_false (by omega);clear c8
  (first|rw [c8b0]|rw [c8b1]|(simp only [i64_w,i32_w];rw [c8b0])|skip)
  replace H := YJ H;obtain ⟨t105,A10,H⟩ := H;replace H := YF H;rcases H with ⟨rfl,H⟩|⟨rfl,H⟩;rotate_left
  ·have H' := ZA H;clear H
   go_wp2_with (first|((with_reducible refine YG 73 ?_);refine YC (some 15) Tryz.func73 #[.slice A0 l0.length c0] (impl_AreWords.calls k _ _ l0 true _ (ZR (Kd.C_below HR0.out HB.out)) HC0.out A6.out) ?_;rintro e w18 ⟨rfl,hb⟩;refine ⟨_,rfl,?_⟩;replace HO103 := ZBR HO103 hb;replace HB := BS HB hb;obtain ⟨Ao19,co19,eo19⟩ := Kd.R_slice HO103.out;subst eo19)|(go_at_call 74;(with_reducible refine (impl_allWithin.calls _ _ t101 0 (wrap64 ((l0.length : Int) - 1)) false _ (WR HO103) (CR HO103) A10.out).mono ?_);rintro e w20 ⟨rfl,hb⟩;replace HO103 := ZBR HO103 hb;replace HB := BS HB hb))
   go_meet
   case rel => exact ⟨_,(true),ZG,H',⟨YO⟩,⟨ZQ HB⟩⟩
  replace H := YJ H;obtain ⟨t106,A12,H⟩ := H;have H' := ZA H;clear H
  go_wp2_with (first|((with_reducible refine YG 73 ?_);refine YC (some 15) Tryz.func73 #[.slice A0 l0.length c0] (impl_AreWords.calls k _ _ l0 true _ (ZR (Kd.C_below HR0.out HB.out)) HC0.out A6.out) ?_;rintro e w13 ⟨rfl,hb⟩;refine ⟨_,rfl,?_⟩;replace HO103 := ZBR HO103 hb;replace HB := BS HB hb;obtain ⟨Ao14,co14,eo14⟩ := Kd.R_slice HO103.out;subst eo14)|(go_at_call 74;(with_reducible refine (impl_allWithin.calls _ _ t101 0 (wrap64 ((l0.length : Int) - 1)) true _ (WR HO103) (CR HO103) A10.out).mono ?_);rintro e w15 ⟨rfl,hb⟩;replace HO103 := ZBR HO103 hb;replace HB := BS HB hb)|(go_at_call 100;(with_reducible refine (impl_distinct_int.calls _ _ t101 t106 _ (WR HO103) (CR HO103) A12.out).mono ?_);rintro e w16 ⟨v107,rfl,ho0,hb⟩;have HO108 := ZA (Kd.R_lower (Kd.R_new' ho0 (Kd.R_lt (ZK HO103))) (SZ HB));replace HO103 := ZA (Kd.R_elder' (ZK HO103) (Kd.R_base ho0) hb);replace HB := BS HB hb;obtain ⟨Ao17,co17,eo17⟩ := Kd.R_slice HO108.out;subst eo17))
  go_meet
  case rel => exact ⟨_,(((t106.length : Int) != (t101.length : Int))),ZG,H',⟨YO⟩,⟨ZQ HB⟩⟩
 case rest =>
  clear HC4;obtain ⟨kq,x37_3,rfl,HA,HJ3,HB⟩ := hcut;cases kq with
  | zero => exact absurd HA.out (by simp [impl_FirstUntaught.j0])
  | succ kj3 =>
   have H := HA.out;clear HA;simp only [impl_FirstUntaught.j0] at H;by_cases c22 : x37_3 = true
   ·subst c22;rw [if_pos rfl] at H;simp only [Option.some.injEq,Prod.mk.injEq] at H;obtain ⟨rfl,rfl,rfl⟩ := H;go_wp2
    go_ret3
    exact ⟨YR,ZQ HB⟩
   replace c22 := Bool.eq_false_iff.mpr c22;subst c22;rw [if_neg (show ¬ (false = true) by decide)] at H;have H' := ZA H;clear H;go_wp2
   go_loopg [40] kj3 (fun kq v40 w' => ∃ (x40_2 : Int),v40 = .int .i64 x40_2 ∧ Aside0 (impl_FirstUntaught.l0 kq l0 l1 l1 (l1.length : Int) x40_2 = some (r1,r2,r3)) ∧ Aside0 (kq <= kj3) ∧ Aside0 (Below w.heap.size w w'))
   case atStart => exact ⟨(0),ZG,H',⟨Nat.le_refl _⟩,⟨ZQ HB⟩⟩
   case round =>
    clear H';obtain ⟨x40_2,rfl,HA,HK2,HB⟩ := hrel;cases gk with
    | zero => exact absurd HA.out (by simp [impl_FirstUntaught.l0])
    | succ k2 =>
     have H := HA.out;clear HA;simp only [impl_FirstUntaught.l0] at H;replace H := YI H;rcases H with ⟨c23b0,H⟩|⟨c23b0,H⟩;rotate_left
     ·simp only [Option.some.injEq,Prod.mk.injEq] at H;obtain ⟨rfl,rfl,rfl⟩ := H;go_wp2
      go_ret3
      exact ⟨YR,ZQ HB⟩
     replace H := YN H;obtain ⟨c24b0,H⟩ := H;replace H := YN H;obtain ⟨c25b0,H⟩ := H;have H' := ZA H;clear H;have p109 : 0 <= (x40_2 : Int) := ZD;have q109 : x40_2 < (l1.length : Int) := ZD;obtain ⟨ad109,A109_0,c109_0,e109,hx109_0,hl109_0,hi109_0⟩ := at_L2 HR1.out x40_2 p109 q109;cases e109;replace hx109_0 := ZX HB hx109_0;have HR109_0 := ZA hi109_0;have HC109_0 := ZA hl109_0;clear hi109_0 hl109_0;replace p109 := eq_true p109;replace q109 := eq_true q109;go_wp2
     go_loopg [47] k2 (fun kq v47 w' => ∃ (x47_3 : Int),v47 = .int .i64 x47_3 ∧ Aside0 (impl_FirstUntaught.l1 kq l0 l1 x40_2 l1 (l1.length : Int) x40_2 (rd_L2 l1 x40_2) ((rd_L2 l1 x40_2).length : Int) x47_3 = some (r1,r2,r3)) ∧ Aside0 (kq <= k2) ∧ Aside0 (Below w.heap.size w w'))
     case atStart => exact ⟨(0),ZG,H',⟨Nat.le_refl _⟩,⟨ZQ HB⟩⟩
     case round =>
      clear H';obtain ⟨x47_3,rfl,HA,HK3,HB⟩ := hrel;cases gk with
      | zero => exact absurd HA.out (by simp [impl_FirstUntaught.l1])
      | succ k3 =>
       have H := HA.out;clear HA;simp only [impl_FirstUntaught.l1] at H;replace H := YI H;rcases H with ⟨c26b0,H⟩|⟨c26b0,H⟩;rotate_left
       ·have H' := ZA H;clear H;go_wp2
        go_roundg k3
        case measure => have := HJ3.out;have := HK2.out;have := HK3.out;omega
        case rel => exact ⟨(wrap64 (x40_2 + 1)),ZG,H',⟨by have := HJ3.out;have := HK2.out;have := HK3.out;omega⟩,⟨ZQ HB⟩⟩
       replace H := YN H;obtain ⟨c27b0,H⟩ := H;replace H := YN H;obtain ⟨c28b0,H⟩ := H;replace H := YN H;obtain ⟨c29b0,H⟩ := H;replace H := YN H;obtain ⟨c30b0,H⟩ := H;replace H := YM H;obtain ⟨c31,H⟩ := H;have c31b0 := eq_true c31;have c31b1 := decide_eq_true c31;clear c31;replace H := YM H;obtain ⟨c32,H⟩ := H;have c32b0 := eq_true c32;have c32b1 := decide_eq_true c32;clear c32;obtain ⟨y112,hy112⟩ : ∃ y_ : List (List Int),y_ = (l1.take (x40_2 : Int).toNat) := ⟨_,rfl⟩;replace H : ((slices_Concat_int.f k3 y112).bind fun t116 => ((impl_hasNeeds.f k3 ((rd_T41 l0 (rd (rd_L2 l1 x40_2) x47_3)).f0) ((rd_T41 l0 (rd (rd_L2 l1 x40_2) x47_3)).f1) ((rd_T41 l0 (rd (rd_L2 l1 x40_2) x47_3)).f2) t116).bind fun t119 => (if t119 = true then (impl_FirstUntaught.l1 k3 l0 l1 x40_2 l1 (l1.length : Int) x40_2 (rd_L2 l1 x40_2) ((rd_L2 l1 x40_2).length : Int) (wrap64 (x47_3 + 1))) else (some (x40_2,rd (rd_L2 l1 x40_2) x47_3,true))))) = some (r1,r2,r3) := YH hy112 H;have Ny112 := ZA hy112;clear hy112;replace H := YJ H;obtain ⟨t116,A33,H⟩ := H;replace H := YJ H;obtain ⟨t119,A34,H⟩ := H;replace H := YF H;rcases H with ⟨rfl,H⟩|⟨rfl,H⟩;rotate_left
       ·simp only [Option.some.injEq,Prod.mk.injEq] at H;obtain ⟨rfl,rfl,rfl⟩ := H;have p110 : 0 <= (x47_3 : Int) := ZD;have q110 : x47_3 < ((rd_L2 l1 x40_2).length : Int) := ZD;obtain ⟨ad110,e110,hx110_0⟩ := Kd.at_int HR109_0.out x47_3 p110 q110;cases e110;replace hx110_0 := ZX HB hx110_0;replace p110 := eq_true p110;replace q110 := eq_true q110
        try go_wp2
        replace HB := ZA (below_drew1 HB.out);have p111 : 0 <= ((rd (rd_L2 l1 x40_2) x47_3) : Int) := ZD;have q111 : (rd (rd_L2 l1 x40_2) x47_3) < (l0.length : Int) := ZD;obtain ⟨ad111,A111_1,c111_1,e111,hx111_0,hx111_1,hx111_2,hl111_1,hi111_1⟩ := at_T41 HR0.out (rd (rd_L2 l1 x40_2) x47_3) p111 q111;have hw111_2 := hx111_2;have hw111_1 := hx111_1;have hw111_0 := hx111_0;cases e111;replace hx111_0 := ZX HB hx111_0;replace hx111_1 := ZX HB hx111_1;replace hx111_2 := ZX HB hx111_2;have HR111_1 := ZA hi111_1;have HC111_1 := ZA hl111_1;clear hi111_1 hl111_1;replace p111 := eq_true p111;replace q111 := eq_true q111;have q42 : (x40_2 : Int) <= ((l1.length : Int) : Int) := ZD;obtain ⟨i042,hi042,_,hsz42,_⟩ := info_parts info28;have hroom42 : l1.length <= c1 := HC1.out;have hC42 : Kd.C (Kd.slice 3 (Kd.int .i64)) _ (some ad109) l1.length l1 := HR1.out;have hcut42 := cut_to (P := Tryz.prog) 25 28 .i64 Tryz.underlying25 hi042 (some ad109) l1.length c1 x40_2 ZD q42 hroom42;have hr42 := Kd.C_take (m := (x40_2 : Int).toNat) hC42 (by omega);have hy42 : y112.length = (x40_2 : Int).toNat := (by rw [Ny112.out,List.length_take];omega);rw [<- Ny112.out] at hr42;rw [<- hy42] at hcut42;have HR115 := ZA hr42;have HC115 := ZA (show y112.length <= c1 from by omega);clear hr42 hC42 hroom42 hi042 hsz42;have KY42 := ZA hy42;clear hy42;replace q42 := eq_true q42;refine start_ (n := 10) (S := fun w' => w'.cell? (ad111.add (((rd (rd_L2 l1 x40_2) x47_3)).toNat * 3)) = some (.string ((rd_T41 l0 (rd (rd_L2 l1 x40_2) x47_3)).f0)) ∧ w'.cell? ⟨(ad111.add (((rd (rd_L2 l1 x40_2) x47_3)).toNat * 3)).block,(ad111.add (((rd (rd_L2 l1 x40_2) x47_3)).toNat * 3)).off + 1,none⟩ = some (.slice A111_1 ((rd_T41 l0 (rd (rd_L2 l1 x40_2) x47_3)).f1).length c111_1) ∧ w'.cell? ⟨(ad111.add (((rd (rd_L2 l1 x40_2) x47_3)).toNat * 3)).block,(ad111.add (((rd (rd_L2 l1 x40_2) x47_3)).toNat * 3)).off + 2,none⟩ = some (.int .i64 ((rd_T41 l0 (rd (rd_L2 l1 x40_2) x47_3)).f2))) (ds := []) (ZL 10 0) (by kernel_rfl) rfl rfl ⟨(ZX HB hw111_0),(ZX HB hw111_1),(ZX HB hw111_2)⟩ (fun hHeld => ?_);refine with_tabW impl_FirstUntaught.tab10 impl_FirstUntaught.bits10 (fun HT_ HW_ => ?_);generalize wr.drew = w41 at HB HR111_1 HR115 hx111_0 hx111_1 hx111_2 hHeld ⊢;refine YP 0 51 (ZL 10 1) rfl rfl HT_ ?_;refine YP 1 52 (ZL 10 3) rfl rfl HT_ ?_;refine YP 2 53 (ZL 10 7) rfl rfl HT_ ?_;refine YP 4 55 (ZL 10 23) rfl rfl HT_ ?_;refine YP 5 56 (ZL 10 55) rfl rfl HT_ ?_;refine YP 6 57 (ZL 10 119) rfl rfl HT_ ?_;refine YT 3 54 (ZL 10 127) rfl rfl HT_ HW_ hHeld ?_;refine ZO 7 58 (ZL 10 255) rfl rfl HT_ fun K hK => ?_
        refine YS Tryz.func86 #[.slice (some ad109) y112.length c1] ?_
        with_reducible refine (slices_Concat_int.calls k3 _ _ y112 t116 _ (ZR (Kd.C_below HR115.out HB.out)) HC115.out A33.out).mono ?_
        rintro e w43 ⟨v117,rfl,ho0,hb⟩;refine ⟨_,rfl,?_⟩;have HO118 := ZA (Kd.R_lower ho0 (SZ HB));replace HB := BS HB hb;obtain ⟨Ao44,co44,eo44⟩ := Kd.R_slice HO118.out
        (first|subst eo44|(injection eo44 with f1_ f2_ f3_;have f4_ := f1_.symm;have f5_ := f3_.symm;clear f1_ f2_ f3_;subst f4_;subst f5_))
        refine hK.out _ _ ⟨(ZX HB hw111_0),(ZX HB hw111_1),(ZX HB hw111_2)⟩ (fun hHeld => ?_);clear hK K;refine YZ (some 58) ?_;refine ZO 8 59 (ZL 10 511) rfl rfl HT_ fun K hK => ?_
        refine YS Tryz.func101 #[.agg #[.string ((rd_T41 l0 (rd (rd_L2 l1 x40_2) x47_3)).f0),.slice A111_1 ((rd_T41 l0 (rd (rd_L2 l1 x40_2) x47_3)).f1).length c111_1,.int .i64 ((rd_T41 l0 (rd (rd_L2 l1 x40_2) x47_3)).f2)],.slice Ao44 t116.length co44] ?_
        with_reducible refine (impl_hasNeeds.calls k3 ((rd_T41 l0 (rd (rd_L2 l1 x40_2) x47_3)).f0) _ _ ((rd_T41 l0 (rd (rd_L2 l1 x40_2) x47_3)).f1) ((rd_T41 l0 (rd (rd_L2 l1 x40_2) x47_3)).f2) _ _ t116 false _ (ZR (Kd.C_below HR111_1.out HB.out)) HC111_1.out (WR HO118) (CR HO118) A34.out).mono ?_
        rintro e w45 ⟨rfl,hb⟩;refine ⟨_,rfl,?_⟩;replace HO118 := ZBR HO118 hb;replace HB := BS HB hb;refine hK.out _ _ ⟨(ZX HB hw111_0),(ZX HB hw111_1),(ZX HB hw111_2)⟩ (fun hHeld => ?_);clear hK K;refine YZ (some 59) ?_;refine YP 9 60 (ZL 10 1023) rfl rfl HT_ ?_;refine done_ (done_of HT_.out (by kernel_rfl)) ?_
        try go_wp2
        go_ret3
        exact ⟨YR,ZQ HB⟩
       have H' := ZA H;clear H;have p110 : 0 <= (x47_3 : Int) := ZD;have q110 : x47_3 < ((rd_L2 l1 x40_2).length : Int) := ZD;obtain ⟨ad110,e110,hx110_0⟩ := Kd.at_int HR109_0.out x47_3 p110 q110;cases e110;replace hx110_0 := ZX HB hx110_0;replace p110 := eq_true p110;replace q110 := eq_true q110
       try go_wp2
       replace HB := ZA (below_drew1 HB.out);have p111 : 0 <= ((rd (rd_L2 l1 x40_2) x47_3) : Int) := ZD;have q111 : (rd (rd_L2 l1 x40_2) x47_3) < (l0.length : Int) := ZD;obtain ⟨ad111,A111_1,c111_1,e111,hx111_0,hx111_1,hx111_2,hl111_1,hi111_1⟩ := at_T41 HR0.out (rd (rd_L2 l1 x40_2) x47_3) p111 q111;have hw111_2 := hx111_2;have hw111_1 := hx111_1;have hw111_0 := hx111_0;cases e111;replace hx111_0 := ZX HB hx111_0;replace hx111_1 := ZX HB hx111_1;replace hx111_2 := ZX HB hx111_2;have HR111_1 := ZA hi111_1;have HC111_1 := ZA hl111_1;clear hi111_1 hl111_1;replace p111 := eq_true p111;replace q111 := eq_true q111;have q37 : (x40_2 : Int) <= ((l1.length : Int) : Int) := ZD;obtain ⟨i037,hi037,_,hsz37,_⟩ := info_parts info28;have hroom37 : l1.length <= c1 := HC1.out;have hC37 : Kd.C (Kd.slice 3 (Kd.int .i64)) _ (some ad109) l1.length l1 := HR1.out;have hcut37 := cut_to (P := Tryz.prog) 25 28 .i64 Tryz.underlying25 hi037 (some ad109) l1.length c1 x40_2 ZD q37 hroom37;have hr37 := Kd.C_take (m := (x40_2 : Int).toNat) hC37 (by omega);have hy37 : y112.length = (x40_2 : Int).toNat := (by rw [Ny112.out,List.length_take];omega);rw [<- Ny112.out] at hr37;rw [<- hy37] at hcut37;have HR115 := ZA hr37;have HC115 := ZA (show y112.length <= c1 from by omega);clear hr37 hC37 hroom37 hi037 hsz37;have KY37 := ZA hy37;clear hy37;replace q37 := eq_true q37;refine start_ (n := 10) (S := fun w' => w'.cell? (ad111.add (((rd (rd_L2 l1 x40_2) x47_3)).toNat * 3)) = some (.string ((rd_T41 l0 (rd (rd_L2 l1 x40_2) x47_3)).f0)) ∧ w'.cell? ⟨(ad111.add (((rd (rd_L2 l1 x40_2) x47_3)).toNat * 3)).block,(ad111.add (((rd (rd_L2 l1 x40_2) x47_3)).toNat * 3)).off + 1,none⟩ = some (.slice A111_1 ((rd_T41 l0 (rd (rd_L2 l1 x40_2) x47_3)).f1).length c111_1) ∧ w'.cell? ⟨(ad111.add (((rd (rd_L2 l1 x40_2) x47_3)).toNat * 3)).block,(ad111.add (((rd (rd_L2 l1 x40_2) x47_3)).toNat * 3)).off + 2,none⟩ = some (.int .i64 ((rd_T41 l0 (rd (rd_L2 l1 x40_2) x47_3)).f2))) (ds := []) (ZL 10 0) (by kernel_rfl) rfl rfl ⟨(ZX HB hw111_0),(ZX HB hw111_1),(ZX HB hw111_2)⟩ (fun hHeld => ?_);refine with_tabW impl_FirstUntaught.tab10 impl_FirstUntaught.bits10 (fun HT_ HW_ => ?_);generalize wr.drew = w36 at HB HR111_1 HR115 hx111_0 hx111_1 hx111_2 hHeld ⊢;refine YP 0 51 (ZL 10 1) rfl rfl HT_ ?_;refine YP 1 52 (ZL 10 3) rfl rfl HT_ ?_;refine YP 2 53 (ZL 10 7) rfl rfl HT_ ?_;refine YP 4 55 (ZL 10 23) rfl rfl HT_ ?_;refine YP 5 56 (ZL 10 55) rfl rfl HT_ ?_;refine YP 6 57 (ZL 10 119) rfl rfl HT_ ?_;refine YT 3 54 (ZL 10 127) rfl rfl HT_ HW_ hHeld ?_;refine ZO 7 58 (ZL 10 255) rfl rfl HT_ fun K hK => ?_
       refine YS Tryz.func86 #[.slice (some ad109) y112.length c1] ?_
       with_reducible refine (slices_Concat_int.calls k3 _ _ y112 t116 _ (ZR (Kd.C_below HR115.out HB.out)) HC115.out A33.out).mono ?_
       rintro e w38 ⟨v117,rfl,ho0,hb⟩;refine ⟨_,rfl,?_⟩;have HO118 := ZA (Kd.R_lower ho0 (SZ HB));replace HB := BS HB hb;obtain ⟨Ao39,co39,eo39⟩ := Kd.R_slice HO118.out
       (first|subst eo39|(injection eo39 with f1_ f2_ f3_;have f4_ := f1_.symm;have f5_ := f3_.symm;clear f1_ f2_ f3_;subst f4_;subst f5_))
       refine hK.out _ _ ⟨(ZX HB hw111_0),(ZX HB hw111_1),(ZX HB hw111_2)⟩ (fun hHeld => ?_);clear hK K;refine YZ (some 58) ?_;refine ZO 8 59 (ZL 10 511) rfl rfl HT_ fun K hK => ?_
       refine YS Tryz.func101 #[.agg #[.string ((rd_T41 l0 (rd (rd_L2 l1 x40_2) x47_3)).f0),.slice A111_1 ((rd_T41 l0 (rd (rd_L2 l1 x40_2) x47_3)).f1).length c111_1,.int .i64 ((rd_T41 l0 (rd (rd_L2 l1 x40_2) x47_3)).f2)],.slice Ao39 t116.length co39] ?_
       with_reducible refine (impl_hasNeeds.calls k3 ((rd_T41 l0 (rd (rd_L2 l1 x40_2) x47_3)).f0) _ _ ((rd_T41 l0 (rd (rd_L2 l1 x40_2) x47_3)).f1) ((rd_T41 l0 (rd (rd_L2 l1 x40_2) x47_3)).f2) _ _ t116 true _ (ZR (Kd.C_below HR111_1.out HB.out)) HC111_1.out (WR HO118) (CR HO118) A34.out).mono ?_
       rintro e w40 ⟨rfl,hb⟩;refine ⟨_,rfl,?_⟩;replace HO118 := ZBR HO118 hb;replace HB := BS HB hb;refine hK.out _ _ ⟨(ZX HB hw111_0),(ZX HB hw111_1),(ZX HB hw111_2)⟩ (fun hHeld => ?_);clear hK K;refine YZ (some 59) ?_;refine YP 9 60 (ZL 10 1023) rfl rfl HT_ ?_;refine done_ (done_of HT_.out (by kernel_rfl)) ?_
       try go_wp2
       go_roundg k3
       case measure => have := HJ3.out;have := HK2.out;have := HK3.out;omega
       case rel => exact ⟨(wrap64 (x47_3 + 1)),ZG,H',⟨by have := HJ3.out;have := HK2.out;have := HK3.out;omega⟩,⟨ZQ HB⟩⟩
def spec_FirstUntaught.j0 : Nat -> List (S41) -> List (List Int) -> Bool -> Option (Int × Int × Bool)
 | 0,_,_,_ => none
 | k + 1,x0,x1,x17 => if x17 = true then (some (0,0,false)) else ((spec_leUntaught.f k x0 x1).bind fun bt103 => (if bt103.1 < 0 then (some (0,0,false)) else (some (bt103.1,bt103.2,true))))
def spec_FirstUntaught.f (k : Nat) (l0 : List (S41)) (l1 : List (List Int)) : Option (Int × Int × Bool) := (spec_leGood.f k l0).bind fun t101 => (if t101 = true then ((spec_leFair.f k l0 l1).bind fun t102 => (spec_FirstUntaught.j0 k l0 l1 (!t102))) else (spec_FirstUntaught.j0 k l0 l1 true))
theorem spec_FirstUntaught.calls (k : Nat) (A0 : Option Addr) (c0 : Nat) (l0 : List (S41)) (A1 : Option Addr) (c1 : Nat) (l1 : List (List Int)) (r1 : Int) (r2 : Int) (r3 : Bool) (w : World) (hr0 : Kd.C k41 w A0 l0.length l0) (hc0 : l0.length <= c0) (hr1 : Kd.C (Kd.slice 3 (Kd.int .i64)) w A1 l1.length l1) (hc1 : l1.length <= c1) (h : spec_FirstUntaught.f k l0 l1 = some (r1,r2,r3)) :
  Calls Tryz.prog 40 #[.slice A0 l0.length c0,.slice A1 l1.length c1] w fun e w' => e = .returned (.tuple #[.int .i64 r1,.int .i64 r2,.bool r3]) ∧ Below w.heap.size w w' := by
 have HR0 := ZA hr0;have HC0 := ZA hc0;clear hr0 hc0;have HR1 := ZA hr1;have HC1 := ZA hc1;clear hr1 hc1;have HB := ZA (Below.refl w.heap.size w);have H := h;clear h;unfold spec_FirstUntaught.f at H;have HC3 := ZA H;clear H;go_enter Tryz.func40,Tryz.ntmps40
 go_upto_region 1 with (fail)
 go_cut [17] (fun v17 wc => ∃ (kq : Nat) (x17_2 : Bool),v17 = .bool x17_2 ∧ Aside0 (spec_FirstUntaught.j0 kq l0 l1 x17_2 = some (r1,r2,r3)) ∧ Aside0 (kq <= k) ∧ Aside0 (Below w.heap.size w wc))
 case first =>
  have H := HC3.out;clear HC3;replace H := YJ H;obtain ⟨t101,A4,H⟩ := H;replace H := YF H;rcases H with ⟨rfl,H⟩|⟨rfl,H⟩;rotate_left
  ·have H' := ZA H;clear H
   go_wp2_with (first|((with_reducible refine YG 78 ?_);refine YC (some 10) Tryz.func78 #[.slice A0 l0.length c0] (spec_leGood.calls k _ _ l0 false _ (ZR (Kd.C_below HR0.out HB.out)) HC0.out A4.out) ?_;rintro e w9 ⟨rfl,hb⟩;refine ⟨_,rfl,?_⟩;replace HB := BS HB hb))
   go_meet
   case rel => exact ⟨_,(true),ZG,H',⟨YO⟩,⟨ZQ HB⟩⟩
  replace H := YJ H;obtain ⟨t102,A6,H⟩ := H;have H' := ZA H;clear H
  go_wp2_with (first|((with_reducible refine YG 78 ?_);refine YC (some 10) Tryz.func78 #[.slice A0 l0.length c0] (spec_leGood.calls k _ _ l0 true _ (ZR (Kd.C_below HR0.out HB.out)) HC0.out A4.out) ?_;rintro e w7 ⟨rfl,hb⟩;refine ⟨_,rfl,?_⟩;replace HB := BS HB hb)|(go_at_call 102;(with_reducible refine (spec_leFair.calls k _ _ l0 _ _ l1 t102 _ (ZR (Kd.C_below HR0.out HB.out)) HC0.out (ZR (Kd.C_below HR1.out HB.out)) HC1.out A6.out).mono ?_);rintro e w8 ⟨rfl,hb⟩;replace HB := BS HB hb))
  go_meet
  case rel => exact ⟨_,(!t102),ZG,H',⟨YO⟩,⟨ZQ HB⟩⟩
 case rest =>
  clear HC3;obtain ⟨kq,x17_2,rfl,HA,HJ2,HB⟩ := hcut;cases kq with
  | zero => exact absurd HA.out (by simp [spec_FirstUntaught.j0])
  | succ kj2 =>
   have H := HA.out;clear HA;simp only [spec_FirstUntaught.j0] at H;by_cases c10 : x17_2 = true
   ·subst c10;rw [if_pos rfl] at H;simp only [Option.some.injEq,Prod.mk.injEq] at H;obtain ⟨rfl,rfl,rfl⟩ := H;go_wp2
    go_ret3
    exact ⟨YR,ZQ HB⟩
   replace c10 := Bool.eq_false_iff.mpr c10;subst c10;rw [if_neg (show ¬ (false = true) by decide)] at H;replace H := YJ H;obtain ⟨⟨t103,t104⟩,A11,H⟩ := H;try dsimp only at H
   by_cases c12 : t103 < 0
   ·rw [if_pos c12] at H;have c12b0 := decide_eq_true c12;clear c12;simp only [Option.some.injEq,Prod.mk.injEq] at H;obtain ⟨rfl,rfl,rfl⟩ := H
    go_wp2_with (first|((with_reducible refine YG 103 ?_);refine YC (some 21) Tryz.func103 #[.slice A0 l0.length c0,.slice A1 l1.length c1] (spec_leUntaught.calls kj2 _ _ l0 _ _ l1 t103 t104 _ (ZR (Kd.C_below HR0.out HB.out)) HC0.out (ZR (Kd.C_below HR1.out HB.out)) HC1.out A11.out) ?_;rintro e w13 ⟨rfl,hb⟩;refine ⟨_,rfl,?_⟩;replace HB := BS HB hb))
    go_ret3
    exact ⟨YR,ZQ HB⟩
   rw [if_neg c12] at H;have c12b0 := decide_eq_false c12;clear c12;simp only [Option.some.injEq,Prod.mk.injEq] at H;obtain ⟨rfl,rfl,rfl⟩ := H
   go_wp2_with (first|((with_reducible refine YG 103 ?_);refine YC (some 21) Tryz.func103 #[.slice A0 l0.length c0,.slice A1 l1.length c1] (spec_leUntaught.calls kj2 _ _ l0 _ _ l1 t103 t104 _ (ZR (Kd.C_below HR0.out HB.out)) HC0.out (ZR (Kd.C_below HR1.out HB.out)) HC1.out A11.out) ?_;rintro e w14 ⟨rfl,hb⟩;refine ⟨_,rfl,?_⟩;replace HB := BS HB hb))
   go_ret3
   exact ⟨YR,ZQ HB⟩
def impl_AreLessons.f (k : Nat) (l0 : List (S41)) (l1 : List (List Int)) : Option (Bool × Bool) := (impl_AreWords.f k l0).bind fun t101 => (if t101 = true then (if (l1.length : Int) > 16 then (some (false,false)) else ((impl_areLessons.f k l0 l1).bind fun t102 => (some (t102,true)))) else (some (false,false)))
theorem impl_AreLessons.calls (k : Nat) (A0 : Option Addr) (c0 : Nat) (l0 : List (S41)) (A1 : Option Addr) (c1 : Nat) (l1 : List (List Int)) (r1 : Bool) (r2 : Bool) (w : World) (hr0 : Kd.C k41 w A0 l0.length l0) (hc0 : l0.length <= c0) (hr1 : Kd.C (Kd.slice 3 (Kd.int .i64)) w A1 l1.length l1) (hc1 : l1.length <= c1) (h : impl_AreLessons.f k l0 l1 = some (r1,r2)) :
  Calls Tryz.prog 42 #[.slice A0 l0.length c0,.slice A1 l1.length c1] w fun e w' => e = .returned (.tuple #[.bool r1,.bool r2]) ∧ Below w.heap.size w w' := by
 have HR0 := ZA hr0;have HC0 := ZA hc0;clear hr0 hc0;have HR1 := ZA hr1;have HC1 := ZA hc1;clear hr1 hc1;have HB := ZA (Below.refl w.heap.size w);have H := h;clear h;unfold impl_AreLessons.f at H;replace H := YJ H;obtain ⟨t101,A3,H⟩ := H;replace H := YF H;rcases H with ⟨rfl,H⟩|⟨rfl,H⟩;rotate_left
 ·simp only [Option.some.injEq,Prod.mk.injEq] at H;obtain ⟨rfl,rfl⟩ := H;go_enter Tryz.func42,Tryz.ntmps42
  go_wp2_with (first|((with_reducible refine YG 73 ?_);refine YC (some 7) Tryz.func73 #[.slice A0 l0.length c0] (impl_AreWords.calls k _ _ l0 false _ (ZR HR0.out) HC0.out A3.out) ?_;rintro e w10 ⟨rfl,hb⟩;refine ⟨_,rfl,?_⟩;replace HB := BS HB hb))
  go_ret2;exact ⟨YR,ZQ HB⟩
 by_cases c5 : (l1.length : Int) > 16
 ·rw [if_pos c5] at H;have c5b0 := decide_eq_true c5;have c5b1 : decide (16 < l1.length) = true := decide_eq_true (by omega);clear c5;simp only [Option.some.injEq,Prod.mk.injEq] at H;obtain ⟨rfl,rfl⟩ := H;go_enter Tryz.func42,Tryz.ntmps42
  go_wp2_with (first|((with_reducible refine YG 73 ?_);refine YC (some 7) Tryz.func73 #[.slice A0 l0.length c0] (impl_AreWords.calls k _ _ l0 true _ (ZR HR0.out) HC0.out A3.out) ?_;rintro e w6 ⟨rfl,hb⟩;refine ⟨_,rfl,?_⟩;replace HB := BS HB hb))
  go_ret2;exact ⟨YR,ZQ HB⟩
 rw [if_neg c5] at H;have c5b0 := decide_eq_false c5;have c5b1 : decide (16 < l1.length) = false := decide_eq_false (by omega);clear c5;replace H := YJ H;obtain ⟨t102,A7,H⟩ := H;simp only [Option.some.injEq,Prod.mk.injEq] at H;obtain ⟨rfl,rfl⟩ := H;go_enter Tryz.func42,Tryz.ntmps42
 go_wp2_with (first|((with_reducible refine YG 73 ?_);refine YC (some 7) Tryz.func73 #[.slice A0 l0.length c0] (impl_AreWords.calls k _ _ l0 true _ (ZR HR0.out) HC0.out A3.out) ?_;rintro e w8 ⟨rfl,hb⟩;refine ⟨_,rfl,?_⟩;replace HB := BS HB hb)|((with_reducible refine YG 99 ?_);refine YC (some 16) Tryz.func99 #[.slice A0 l0.length c0,.slice A1 l1.length c1] (impl_areLessons.calls k _ _ l0 _ _ l1 t102 _ (ZR (Kd.C_below HR0.out HB.out)) HC0.out (ZR (Kd.C_below HR1.out HB.out)) HC1.out A7.out) ?_;rintro e w9 ⟨rfl,hb⟩;refine ⟨_,rfl,?_⟩;replace HB := BS HB hb))
 go_ret2;exact ⟨YR,ZQ HB⟩
def spec_AreLessons.f (k : Nat) (l0 : List (S41)) (l1 : List (List Int)) : Option (Bool × Bool) := (spec_leGood.f k l0).bind fun t101 => (if t101 = true then (if (l1.length : Int) > 16 then (some (false,false)) else ((spec_leAre.f k l0 l1).bind fun t102 => (some (t102,true)))) else (some (false,false)))
theorem spec_AreLessons.calls (k : Nat) (A0 : Option Addr) (c0 : Nat) (l0 : List (S41)) (A1 : Option Addr) (c1 : Nat) (l1 : List (List Int)) (r1 : Bool) (r2 : Bool) (w : World) (hr0 : Kd.C k41 w A0 l0.length l0) (hc0 : l0.length <= c0) (hr1 : Kd.C (Kd.slice 3 (Kd.int .i64)) w A1 l1.length l1) (hc1 : l1.length <= c1) (h : spec_AreLessons.f k l0 l1 = some (r1,r2)) :
  Calls Tryz.prog 43 #[.slice A0 l0.length c0,.slice A1 l1.length c1] w fun e w' => e = .returned (.tuple #[.bool r1,.bool r2]) ∧ Below w.heap.size w w' := by
 have HR0 := ZA hr0;have HC0 := ZA hc0;clear hr0 hc0;have HR1 := ZA hr1;have HC1 := ZA hc1;clear hr1 hc1;have HB := ZA (Below.refl w.heap.size w);have H := h;clear h;unfold spec_AreLessons.f at H;replace H := YJ H;obtain ⟨t101,A3,H⟩ := H;replace H := YF H;rcases H with ⟨rfl,H⟩|⟨rfl,H⟩;rotate_left
 ·simp only [Option.some.injEq,Prod.mk.injEq] at H;obtain ⟨rfl,rfl⟩ := H;go_enter Tryz.func43,Tryz.ntmps43
  go_wp2_with (first|((with_reducible refine YG 78 ?_);refine YC (some 7) Tryz.func78 #[.slice A0 l0.length c0] (spec_leGood.calls k _ _ l0 false _ (ZR HR0.out) HC0.out A3.out) ?_;rintro e w10 ⟨rfl,hb⟩;refine ⟨_,rfl,?_⟩;replace HB := BS HB hb))
  go_ret2;exact ⟨YR,ZQ HB⟩
 by_cases c5 : (l1.length : Int) > 16
 ·rw [if_pos c5] at H;have c5b0 := decide_eq_true c5;have c5b1 : decide (16 < l1.length) = true := decide_eq_true (by omega);clear c5;simp only [Option.some.injEq,Prod.mk.injEq] at H;obtain ⟨rfl,rfl⟩ := H;go_enter Tryz.func43,Tryz.ntmps43
  go_wp2_with (first|((with_reducible refine YG 78 ?_);refine YC (some 7) Tryz.func78 #[.slice A0 l0.length c0] (spec_leGood.calls k _ _ l0 true _ (ZR HR0.out) HC0.out A3.out) ?_;rintro e w6 ⟨rfl,hb⟩;refine ⟨_,rfl,?_⟩;replace HB := BS HB hb))
  go_ret2;exact ⟨YR,ZQ HB⟩
 rw [if_neg c5] at H;have c5b0 := decide_eq_false c5;have c5b1 : decide (16 < l1.length) = false := decide_eq_false (by omega);clear c5;replace H := YJ H;obtain ⟨t102,A7,H⟩ := H;simp only [Option.some.injEq,Prod.mk.injEq] at H;obtain ⟨rfl,rfl⟩ := H;go_enter Tryz.func43,Tryz.ntmps43
 go_wp2_with (first|((with_reducible refine YG 78 ?_);refine YC (some 7) Tryz.func78 #[.slice A0 l0.length c0] (spec_leGood.calls k _ _ l0 true _ (ZR HR0.out) HC0.out A3.out) ?_;rintro e w8 ⟨rfl,hb⟩;refine ⟨_,rfl,?_⟩;replace HB := BS HB hb)|((with_reducible refine YG 87 ?_);refine YC (some 16) Tryz.func87 #[.slice A0 l0.length c0,.slice A1 l1.length c1] (spec_leAre.calls k _ _ l0 _ _ l1 t102 _ (ZR (Kd.C_below HR0.out HB.out)) HC0.out (ZR (Kd.C_below HR1.out HB.out)) HC1.out A7.out) ?_;rintro e w9 ⟨rfl,hb⟩;refine ⟨_,rfl,?_⟩;replace HB := BS HB hb))
 go_ret2;exact ⟨YR,ZQ HB⟩
def spec_DrawNeededFor.f (k : Nat) (l0 : List Int) : Option ((List (S41)) × Int) := (spec_l1Cur_words.f k l0 0 0).bind fun bt102 => ((spec_l1Cur_wordIn.f l0 bt102.2.1 bt102.2.2 bt102.1).bind fun bt107 => (some (bt102.1,bt107.1)))
theorem spec_DrawNeededFor.calls (k : Nat) (A0 : Option Addr) (c0 : Nat) (l0 : List Int) (r1 : List (S41)) (r2 : Int) (w : World) (hr0 : Kd.C (Kd.int .u8) w A0 l0.length l0) (hc0 : l0.length <= c0) (h : spec_DrawNeededFor.f k l0 = some (r1,r2)) :
  Calls Tryz.prog 44 #[.slice A0 l0.length c0] w fun e w' => ∃ v0_ : Value,e = .returned (.tuple #[v0_,.int .i64 r2]) ∧ Kd.N k41 41 w' w.heap.size (fun k_ => (w.heap.size <= k_)) v0_ r1 ∧ Below w.heap.size w w' := by
 have hu82 := Tryz.underlying82;have HR0 := ZA hr0;have HC0 := ZA hc0;clear hr0 hc0;have HB := ZA (Below.refl w.heap.size w);have H := h;clear h;unfold spec_DrawNeededFor.f at H;replace H := YJ H;obtain ⟨⟨t102,t105,t106⟩,A2,H⟩ := H;try dsimp only at H
 replace H := YJ H;obtain ⟨⟨t107,t108,t109⟩,A3,H⟩ := H;try dsimp only at H
 simp only [Option.some.injEq,Prod.mk.injEq] at H;obtain ⟨rfl,rfl⟩ := H;go_enter Tryz.func44,Tryz.ntmps44
 go_wp2_with (first|((with_reducible refine gate_dst (N := 8) rfl ?_);refine ZE 8 #[.slice A0 l0.length c0,.int .i64 0,.int .u64 0] 82 ?_;intro gb101 hg w4 hbox hb;have HI101 := ZA ((⟨_,_,hbox,(by rw [hg];exact (SZ HB)),HR0.out⟩ : IsS82 w w4 gb101 l0 0 0));replace HB := BS HB hb;clear hb hbox hg)|((with_reducible refine YG 76 ?_);refine YC (some 10) Tryz.func76 #[.pointer (some ⟨gb101,0,none⟩)] (spec_l1Cur_words.calls k gb101 l0 0 0 t102 t105 t106 w _ (ZS HI101) (ZJ HB) A2.out) ?_;rintro e w5 ⟨v103,rfl,ho0,hi,hb,hk⟩;refine ⟨_,rfl,?_⟩;have HO104 := ZA (Kd.N_lower (Kd.N_mono (ok' := fun k_ => (w.heap.size <= k_) ∧ k_ ≠ gb101) ho0 (fun k_ hk_ => ⟨(Nat.le_trans (below_size (ZJ HB)) hk_),(IsS82.fresh (ZS HI101) k_ hk_)⟩)) (below_size (ZJ HB)));replace HB := ZA (hb);replace HI101 := ZA (hi);obtain ⟨Ao6,co6,eo6⟩ := Kd.N_slice HO104.out;subst eo6)|((with_reducible refine YG 59 ?_);refine YC (some 14) Tryz.func59 #[.pointer (some ⟨gb101,0,none⟩),.slice Ao6 t102.length co6] (spec_l1Cur_wordIn.calls gb101 l0 t105 t106 _ _ t102 t107 t108 t109 w _ (ZS HI101) (ZJ HB) (Kd.C_foot_ownV (base := 0) (Kd.N_V (Kd.N_mono (ok := fun k_ => (((w.heap.size <= k_)) ∧ k_ ≠ gb101)) (ZKN HO104) (fun k_ hk_ => (⟨hk_,hk_.2⟩ : _ ∧ k_ ≠ gb101)))) (fun _ h_ => h_.2)) (CN HO104) A3.out) ?_;rintro e w7 ⟨rfl,hi,hb,hk⟩;refine ⟨_,rfl,?_⟩;replace HO104 := KNN HO104 hk (fun _ hk_ => hk_.2);replace HB := ZA (hb);replace HI101 := ZA (hi)))
 go_ret2;exact ⟨_,YR,ZKN ⟨Kd.N_mono HO104.out (fun _ hk => hk.1)⟩,ZJ HB⟩
end Go.Proofs.YtgnijnlgbelifaaGreat.Q
