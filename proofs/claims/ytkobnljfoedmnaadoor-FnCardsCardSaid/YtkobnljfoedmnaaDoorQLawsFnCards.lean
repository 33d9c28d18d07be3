import Derived.Test.YtkobnljfoedmnaaDoorQBImplAddCard
import Derived.Test.YtkobnljfoedmnaaDoorGUp
import Derived.Test.YtkobnljfoedmnaaDoorQBSpecDrawAreCards
import Derived.Test.YtkobnljfoedmnaaDoorQBSpecL1CurCardGloss
import Derived.Test.YtkobnljfoedmnaaDoorQSpecAddCard
import Derived.Test.YtkobnljfoedmnaaDoorQSpecPlanDay
namespace Go.Proofs.YtkobnljfoedmnaaDoor.Q
open Go.RowKit Go.Proofs.YtkobnljfoedmnaaDoorW.PrintWords Go.Proofs.YtkobnljfoedmnaaDoorW.PrintLast Go.Proofs.YtkobnljfoedmnaaDoorW.PrintMore Go.Proofs.YtkobnljfoedmnaaDoorW.GCall
attribute [local go_sem] max2_int min2_int max_two min_two max_three min_three max_four min_four
set_option linter.unusedVariables false
set_option linter.unusedSimpArgs false
mutual
def laws_FnCards.j0 : Nat -> List (S94) -> Int -> Int -> Bool -> List ByteArray -> List (S94) -> ByteArray -> Int -> List (S94) -> Bool -> List (S94) -> List (S94) -> Bool -> List Int -> Bool -> Int -> Bool -> Option (Bool)
 | 0,_,_,_,_,_,_,_,_,_,_,_,_,_,_,_,_,_ => none
 | k + 1,x5,x6,x7,x9,x10,x12,x13,x14,x15,x16,x17,x19,x21,x22,x25,x26,x230 => if x230 = true then (none) else (if x9 = true then ((impl_DueCards.f k x5 x6).bind fun bt163 => ((spec_DueCards.f k x5 x6).bind fun bt167 => (if bt163.2 = true then (if bt167.2 = true then ((laws_qTexts.f k bt163.1 bt167.1).bind fun t171 => (if t171 = true then (if (x10.length : Int) > x7 then (none) else (if (x10.length : Int) > (bt167.1.length : Int) then (none) else (if (x10.length : Int) < x7 then (laws_FnCards.j1 k x10 x12 x13 x14 x15 x16 x17 x19 x21 x22 x25 x26 bt167.1 ((x10.length : Int) != (bt167.1.length : Int))) else (laws_FnCards.j1 k x10 x12 x13 x14 x15 x16 x17 x19 x21 x22 x25 x26 bt167.1 false)))) else (none))) else (none)) else (none)))) else (laws_FnCards.j3 k x12 x13 x14 x15 x16 x17 x19 x21 x22 x25 x26))
def laws_FnCards.j3 : Nat -> List (S94) -> ByteArray -> Int -> List (S94) -> Bool -> List (S94) -> List (S94) -> Bool -> List Int -> Bool -> Int -> Option (Bool)
 | 0,_,_,_,_,_,_,_,_,_,_,_ => none
 | k + 1,x12,x13,x14,x15,x16,x17,x19,x21,x22,x25,x26 => if x16 = true then ((impl_DueCards.f k x15 x14).bind fun bt174 => (if bt174.2 = true then ((laws_qSay.f k bt174.1 x13).bind fun t178 => (if t178 = true then (if (x17.length : Int) = (wrap64 ((x12.length : Int) + 1)) then ((impl_AreCards.f k x15).bind fun t179 => (if t179 = true then (laws_FnCards.j4 k x19 x21 x22 x25 x26) else (none))) else (none)) else (none))) else (none))) else (laws_FnCards.j4 k x19 x21 x22 x25 x26)
def laws_FnCards.j4 : Nat -> List (S94) -> Bool -> List Int -> Bool -> Int -> Option (Bool)
 | 0,_,_,_,_,_ => none
 | k + 1,x19,x21,x22,x25,x26 => if x21 = true then (laws_FnCards.l1 k x19 x22 x25 x26 0 x22 (x22.length : Int) 0) else (laws_FnCards.j6 k x19 x25 x26)
def laws_FnCards.j6 : Nat -> List (S94) -> Bool -> Int -> Option (Bool)
 | 0,_,_,_ => none
 | k + 1,x19,x25,x26 => if x25 = true then ((impl_DueCards.f k x19 x26).bind fun bt181 => (if bt181.2 = true then (laws_FnCards.j7 k x19 x26 ((bt181.1.length : Int) == 0)) else (none))) else (some true)
def laws_FnCards.j7 : Nat -> List (S94) -> Int -> Bool -> Option (Bool)
 | 0,_,_,_ => none
 | k + 1,x19,x26,x354 => if x354 = true then (none) else (if x26 > 0 then ((impl_DueCards.f k x19 (wrap64 (x26 - 1))).bind fun bt185 => (if bt185.2 = true then (some ((bt185.1.length : Int) == 0)) else (none))) else (some true))
def laws_FnCards.l1 : Nat -> List (S94) -> List Int -> Bool -> Int -> Int -> List Int -> Int -> Int -> Option (Bool)
 | 0,_,_,_,_,_,_,_,_ => none
 | k + 1,x19,x22,x25,x26,x46,x322,x323,x324 => if x324 < x323 then (if 0 <= x324 then (if x324 < (x322.length : Int) then (laws_FnCards.l1 k x19 x22 x25 x26 (wrap64 (x46 + (rd x322 x324))) x322 x323 (wrap64 (x324 + 1))) else (none)) else (none)) else (if x46 = (x19.length : Int) then (if (x22.length : Int) = 6 then (laws_FnCards.j6 k x19 x25 x26) else (none)) else (none))
def laws_FnCards.j1 : Nat -> List ByteArray -> List (S94) -> ByteArray -> Int -> List (S94) -> Bool -> List (S94) -> List (S94) -> Bool -> List Int -> Bool -> Int -> List ByteArray -> Bool -> Option (Bool)
 | 0,_,_,_,_,_,_,_,_,_,_,_,_,_,_ => none
 | k + 1,x10,x12,x13,x14,x15,x16,x17,x19,x21,x22,x25,x26,x40,x281 => if x281 = true then (none) else (laws_FnCards.l0 k x12 x13 x14 x15 x16 x17 x19 x21 x22 x25 x26 x40 x10 (x10.length : Int) 0)
def laws_FnCards.l0 : Nat -> List (S94) -> ByteArray -> Int -> List (S94) -> Bool -> List (S94) -> List (S94) -> Bool -> List Int -> Bool -> Int -> List ByteArray -> List ByteArray -> Int -> Int -> Option (Bool)
 | 0,_,_,_,_,_,_,_,_,_,_,_,_,_,_,_ => none
 | k + 1,x12,x13,x14,x15,x16,x17,x19,x21,x22,x25,x26,x40,x282,x283,x284 => if x284 < x283 then (if 0 <= x284 then (if x284 < (x282.length : Int) then ((laws_qSay.f k x40 (rdOf ByteArray.empty x282 x284)).bind fun t173 => (if t173 = true then (laws_FnCards.l0 k x12 x13 x14 x15 x16 x17 x19 x21 x22 x25 x26 x40 x282 x283 (wrap64 (x284 + 1))) else (none))) else (none)) else (none)) else (laws_FnCards.j3 k x12 x13 x14 x15 x16 x17 x19 x21 x22 x25 x26)
end
def laws_FnCards.f (k : Nat) (l0 : List Int) (l1 : List Int) : Option (Bool) := if (wrap64 ((l0.length : Int) + (l1.length : Int))) > 1048576 then (some true) else ((spec_DrawPlanDay.f k l0).bind fun bt101 => ((impl_PlanDay.f k bt101.1 bt101.2.1 bt101.2.2).bind fun bt106 => ((spec_PlanDay.f k bt101.1 bt101.2.1 bt101.2.2).bind fun bt110 => ((spec_DrawAddCard.f k l1).bind fun bt114 => ((impl_AddCard.f k bt114.1 bt114.2.1 bt114.2.2).bind fun bt119 => ((spec_AddCard.f k bt114.1 bt114.2.1 bt114.2.2).bind fun bt123 => ((spec_DrawBoxCounts.f k l1).bind fun t127 => ((impl_BoxCounts.f k t127).bind fun bt130 => ((spec_BoxCounts.f k t127).bind fun bt134 => ((impl_NextDay.f k t127).bind fun bt138 => ((spec_NextDay.f k t127).bind fun bt140 => ((impl_CardsText.f k t127).bind fun bt142 => ((spec_CardsText.f k t127).bind fun bt144 => ((spec_DrawDueCards.f k l1).bind fun bt146 => ((impl_DueCards.f k bt146.1 bt146.2).bind fun bt150 => ((spec_DueCards.f k bt146.1 bt146.2).bind fun bt154 => (if (bt106.2 != bt110.2) = true then (none) else ((laws_qTexts.f k bt106.1 bt110.1).bind fun t158 => (if t158 = true then (if (bt119.2 != bt123.2) = true then (none) else ((laws_qCards.f k bt119.1 bt123.1).bind fun t159 => (if t159 = true then (if (bt130.2 != bt134.2) = true then (none) else ((laws_qInts.f k bt130.1 bt134.1).bind fun t160 => (if t160 = true then (if (bt138.2 != bt140.2) = true then (none) else (if bt138.1 = bt140.1 then (if (bt142.2 != bt144.2) = true then (none) else (if bt142.1.toList = bt144.1.toList then (if (bt150.2 != bt154.2) = true then (none) else ((laws_qTexts.f k bt150.1 bt154.1).bind fun t161 => (if t161 = true then ((impl_AreCards.f k t127).bind fun t162 => (if (bt130.2 != t162) = true then (none) else (if (bt142.2 != bt130.2) = true then (none) else (if bt130.2 = true then (laws_FnCards.j0 k bt101.1 bt101.2.1 bt101.2.2 bt106.2 bt110.1 bt114.1 bt114.2.1 bt114.2.2 bt119.1 bt119.2 bt123.1 t127 bt130.2 bt134.1 bt138.2 bt140.1 (bt138.2 != (decide ((t127.length : Int) > 0)))) else (laws_FnCards.j0 k bt101.1 bt101.2.1 bt101.2.2 bt106.2 bt110.1 bt114.1 bt114.2.1 bt114.2.2 bt119.1 bt119.2 bt123.1 t127 bt130.2 bt134.1 bt138.2 bt140.1 (bt138.2 != false)))))) else (none)))) else (none))) else (none))) else (none)))) else (none)))) else (none))))))))))))))))))))
set_option maxHeartbeats 40000000 in
set_option maxRecDepth 100000 in
theorem laws_FnCards.calls (k : Nat) (A0 : Option Addr) (c0 : Nat) (l0 : List Int) (A1 : Option Addr) (c1 : Nat) (l1 : List Int) (r : Bool) (w : World) (hr0 : Kd.C (Kd.int .u8) w A0 l0.length l0) (hc0 : l0.length <= c0) (hr1 : Kd.C (Kd.int .u8) w A1 l1.length l1) (hc1 : l1.length <= c1) (ht_ : Go.Lib.TabIs Tryd.prog w "internal/strconv.uint64pow10" .u64 Go.Lib.pow10Tab) (h : laws_FnCards.f k l0 l1 = some r) :
  Calls Tryd.prog 4 #[.slice A0 l0.length c0,.slice A1 l1.length c1] w fun e w' => e = .returned (.bool r) ∧ Below w.heap.size w w' := by
 have HTB_ := ZA ht_;clear ht_;have HR0 := ZA hr0;have HC0 := ZA hc0;clear hr0 hc0;have HR1 := ZA hr1;have HC1 := ZA hc1;clear hr1 hc1;have HB := ZA (Below.refl w.heap.size w);have H := h;clear h;unfold laws_FnCards.f at H;by_cases c3 : (wrap64 ((l0.length : Int) + (l1.length : Int))) > 1048576
 ·rw [if_pos c3] at H;have c3b0 := decide_eq_true c3;clear c3
  as_aux_lemma =>
   obtain rfl := Option.some.inj H;go_enter Tryd.func4,Tryd.ntmps4;go_wp2;go_ret;exact ⟨YR,ZQ HB⟩
 rw [if_neg c3] at H;have c3b0 := decide_eq_false c3;clear c3;replace H := YJ H;obtain ⟨⟨t101,t102,t103⟩,A4,H⟩ := H;try dsimp only at H
 replace H := YJ H;obtain ⟨⟨t106,t107⟩,A5,H⟩ := H;try dsimp only at H
 replace H := YJ H;obtain ⟨⟨t110,t111⟩,A6,H⟩ := H;try dsimp only at H
 replace H := YJ H;obtain ⟨⟨t114,t115,t116⟩,A7,H⟩ := H;try dsimp only at H
 replace H := YJ H;obtain ⟨⟨t119,t120⟩,A8,H⟩ := H;try dsimp only at H
 replace H := YJ H;obtain ⟨⟨t123,t124⟩,A9,H⟩ := H;try dsimp only at H
 replace H := YJ H;obtain ⟨t127,A10,H⟩ := H;try dsimp only at H
 replace H := YJ H;obtain ⟨⟨t130,t131⟩,A11,H⟩ := H;try dsimp only at H
 replace H := YJ H;obtain ⟨⟨t134,t135⟩,A12,H⟩ := H;try dsimp only at H
 replace H := YJ H;obtain ⟨⟨t138,t139⟩,A13,H⟩ := H;try dsimp only at H
 replace H := YJ H;obtain ⟨⟨t140,t141⟩,A14,H⟩ := H;try dsimp only at H
 replace H := YJ H;obtain ⟨⟨t142,t143⟩,A15,H⟩ := H;try dsimp only at H
 replace H := YJ H;obtain ⟨⟨t144,t145⟩,A16,H⟩ := H;try dsimp only at H
 replace H := YJ H;obtain ⟨⟨t146,t147⟩,A17,H⟩ := H;try dsimp only at H
 replace H := YJ H;obtain ⟨⟨t150,t151⟩,A18,H⟩ := H;try dsimp only at H
 replace H := YJ H;obtain ⟨⟨t154,t155⟩,A19,H⟩ := H;try dsimp only at H
 have HC20 := ZA H;clear H;go_enter Tryd.func4,Tryd.ntmps4
 go_upto_region 19 with (first|((with_reducible refine YG 23 ?_);refine YC (some 61) Tryd.func23 #[.slice A0 l0.length c0] (spec_DrawPlanDay.calls k _ _ l0 t101 t102 t103 _ (ZR HR0.out) HC0.out A4.out) ?_;rintro e w21 ⟨v104,rfl,ho0,hb⟩;refine ⟨_,rfl,?_⟩;have HO105 := ZA (Kd.R_lower ho0 (SZ HB));replace HB := BS HB hb;obtain ⟨Ao22,co22,eo22⟩ := Kd.R_slice HO105.out;subst eo22)|((with_reducible refine YG 24 ?_);refine YC (some 69) Tryd.func24 #[.slice Ao22 t101.length co22,.int .i64 t102,.int .i64 t103] (impl_PlanDay.calls k _ _ t101 t102 t103 t106 t107 _ (WR HO105) (CR HO105) A5.out) ?_;rintro e w23 ⟨v108,rfl,ho0,hb⟩;refine ⟨_,rfl,?_⟩;replace HO105 := ZBR HO105 hb;have HO109 := ZA (Kd.R_lower ho0 (SZ HB));replace HB := BS HB hb)|((with_reducible refine YG 25 ?_);refine YC (some 76) Tryd.func25 #[.slice Ao22 t101.length co22,.int .i64 t102,.int .i64 t103] (spec_PlanDay.calls k _ _ t101 t102 t103 t110 t111 _ (WR HO105) (CR HO105) A6.out) ?_;rintro e w24 ⟨v112,rfl,ho0,hb⟩;refine ⟨_,rfl,?_⟩;replace HO105 := ZBR HO105 hb;have HO113 := ZA (Kd.R_lower (Kd.R_new' ho0 (Kd.R_lt (ZK HO109))) (SZ HB));replace HO109 := ZA (Kd.R_elder' (ZK HO109) (Kd.R_base ho0) hb);replace HB := BS HB hb)|((with_reducible refine YG 26 ?_);refine YC (some 81) Tryd.func26 #[.slice A1 l1.length c1] (spec_DrawAddCard.calls k _ _ l1 t114 t115 t116 _ (ZR (Kd.C_below HR1.out HB.out)) HC1.out A7.out) ?_;rintro e w25 ⟨v117,rfl,ho0,hb⟩;refine ⟨_,rfl,?_⟩;replace HO109 := ZBR HO109 hb;replace HO113 := ZBR HO113 hb;have HO118 := ZA (Kd.R_lower (Kd.R_new' ho0 (Kd.R_lt (ZK HO105))) (SZ HB));replace HO105 := ZA (Kd.R_elder' (ZK HO105) (Kd.R_base ho0) hb);replace HB := BS HB hb;obtain ⟨Ao26,co26,eo26⟩ := Kd.R_slice HO118.out;subst eo26)|((with_reducible refine YG 27 ?_);refine YC (some 89) Tryd.func27 #[.slice Ao26 t114.length co26,.string t115,.int .i64 t116] (impl_AddCard.calls k _ _ t114 t115 t116 t119 t120 _ (WR HO118) (CR HO118) A8.out) ?_;rintro e w27 ⟨v121,rfl,ho0,hb⟩;refine ⟨_,rfl,?_⟩;replace HO109 := ZBR HO109 hb;replace HO113 := ZBR HO113 hb;have HO122 := ZA (Kd.R_lower (Kd.R_new' (Kd.R_new' ho0 (Kd.R_lt (ZK HO105))) (Kd.R_lt (ZK HO118))) (SZ HB));replace HO105 := ZA (Kd.R_elder' (ZK HO105) (Kd.R_base ho0) hb);replace HO118 := ZA (Kd.R_elder' (ZK HO118) (Kd.R_base ho0) hb);replace HB := BS HB hb)|((with_reducible refine YG 28 ?_);refine YC (some 96) Tryd.func28 #[.slice Ao26 t114.length co26,.string t115,.int .i64 t116] (spec_AddCard.calls k _ _ t114 t115 t116 t123 t124 _ (WR HO118) (CR HO118) A9.out) ?_;rintro e w28 ⟨v125,rfl,ho0,hb⟩;refine ⟨_,rfl,?_⟩;replace HO109 := ZBR HO109 hb;replace HO113 := ZBR HO113 hb;have HO126 := ZA (Kd.R_lower (Kd.R_new' (Kd.R_new' (Kd.R_new' ho0 (Kd.R_lt (ZK HO105))) (Kd.R_lt (ZK HO118))) (Kd.R_lt (ZK HO122))) (SZ HB));replace HO105 := ZA (Kd.R_elder' (ZK HO105) (Kd.R_base ho0) hb);replace HO118 := ZA (Kd.R_elder' (ZK HO118) (Kd.R_base ho0) hb);replace HO122 := ZA (Kd.R_elder' (ZK HO122) (Kd.R_base ho0) hb);replace HB := BS HB hb)|((with_reducible refine YG 29 ?_);refine YC (some 100) Tryd.func29 #[.slice A1 l1.length c1] (spec_DrawBoxCounts.calls k _ _ l1 t127 _ (ZR (Kd.C_below HR1.out HB.out)) HC1.out A10.out) ?_;rintro e w29 ⟨v128,rfl,ho0,hb⟩;refine ⟨_,rfl,?_⟩;replace HO109 := ZBR HO109 hb;replace HO113 := ZBR HO113 hb;have HO129 := ZA (Kd.R_lower (Kd.R_new' (Kd.R_new' (Kd.R_new' (Kd.R_new' ho0 (Kd.R_lt (ZK HO105))) (Kd.R_lt (ZK HO118))) (Kd.R_lt (ZK HO122))) (Kd.R_lt (ZK HO126))) (SZ HB));replace HO105 := ZA (Kd.R_elder' (ZK HO105) (Kd.R_base ho0) hb);replace HO118 := ZA (Kd.R_elder' (ZK HO118) (Kd.R_base ho0) hb);replace HO122 := ZA (Kd.R_elder' (ZK HO122) (Kd.R_base ho0) hb);replace HO126 := ZA (Kd.R_elder' (ZK HO126) (Kd.R_base ho0) hb);replace HB := BS HB hb;obtain ⟨Ao30,co30,eo30⟩ := Kd.R_slice HO129.out;subst eo30)|((with_reducible refine YG 30 ?_);refine YC (some 103) Tryd.func30 #[.slice Ao30 t127.length co30] (impl_BoxCounts.calls k _ _ t127 t130 t131 _ (WR HO129) (CR HO129) A11.out) ?_;rintro e w31 ⟨v132,rfl,ho0,hb⟩;refine ⟨_,rfl,?_⟩;replace HO105 := ZBR HO105 hb;replace HO109 := ZBR HO109 hb;replace HO113 := ZBR HO113 hb;replace HO118 := ZBR HO118 hb;replace HO122 := ZBR HO122 hb;replace HO126 := ZBR HO126 hb;replace HO129 := ZBR HO129 hb;have HO133 := ZA (Kd.R_lower ho0 (SZ HB));replace HB := BS HB hb)|((with_reducible refine YG 31 ?_);refine YC (some 108) Tryd.func31 #[.slice Ao30 t127.length co30] (spec_BoxCounts.calls k _ _ t127 t134 t135 _ (WR HO129) (CR HO129) A12.out) ?_;rintro e w32 ⟨v136,rfl,ho0,hb⟩;refine ⟨_,rfl,?_⟩;replace HO105 := ZBR HO105 hb;replace HO109 := ZBR HO109 hb;replace HO113 := ZBR HO113 hb;replace HO118 := ZBR HO118 hb;replace HO122 := ZBR HO122 hb;replace HO126 := ZBR HO126 hb;replace HO129 := ZBR HO129 hb;have HO137 := ZA (Kd.R_lower (Kd.R_new' ho0 (Kd.R_lt (ZK HO133))) (SZ HB));replace HO133 := ZA (Kd.R_elder' (ZK HO133) (Kd.R_base ho0) hb);replace HB := BS HB hb)|((with_reducible refine YG 32 ?_);refine YC (some 113) Tryd.func32 #[.slice Ao30 t127.length co30] (impl_NextDay.calls k _ _ t127 t138 t139 _ (WR HO129) (CR HO129) A13.out) ?_;rintro e w33 ⟨rfl,hb⟩;refine ⟨_,rfl,?_⟩;replace HO105 := ZBR HO105 hb;replace HO109 := ZBR HO109 hb;replace HO113 := ZBR HO113 hb;replace HO118 := ZBR HO118 hb;replace HO122 := ZBR HO122 hb;replace HO126 := ZBR HO126 hb;replace HO129 := ZBR HO129 hb;replace HO133 := ZBR HO133 hb;replace HO137 := ZBR HO137 hb;replace HB := BS HB hb)|((with_reducible refine YG 33 ?_);refine YC (some 118) Tryd.func33 #[.slice Ao30 t127.length co30] (spec_NextDay.calls k _ _ t127 t140 t141 _ (WR HO129) (CR HO129) A14.out) ?_;rintro e w34 ⟨rfl,hb⟩;refine ⟨_,rfl,?_⟩;replace HO105 := ZBR HO105 hb;replace HO109 := ZBR HO109 hb;replace HO113 := ZBR HO113 hb;replace HO118 := ZBR HO118 hb;replace HO122 := ZBR HO122 hb;replace HO126 := ZBR HO126 hb;replace HO129 := ZBR HO129 hb;replace HO133 := ZBR HO133 hb;replace HO137 := ZBR HO137 hb;replace HB := BS HB hb)|((with_reducible refine YG 34 ?_);refine YC (some 123) Tryd.func34 #[.slice Ao30 t127.length co30] (impl_CardsText.calls k _ _ t127 t142 t143 _ (WR HO129) (CR HO129) (Go.Proofs.YtkobnljfoedmnaaDoorW.GTab.tab_below HTB_.out (ZQ HB)) A15.out) ?_;rintro e w35 ⟨rfl,hb⟩;refine ⟨_,rfl,?_⟩;replace HO105 := ZBR HO105 hb;replace HO109 := ZBR HO109 hb;replace HO113 := ZBR HO113 hb;replace HO118 := ZBR HO118 hb;replace HO122 := ZBR HO122 hb;replace HO126 := ZBR HO126 hb;replace HO129 := ZBR HO129 hb;replace HO133 := ZBR HO133 hb;replace HO137 := ZBR HO137 hb;replace HB := BS HB hb)|((with_reducible refine YG 35 ?_);refine YC (some 128) Tryd.func35 #[.slice Ao30 t127.length co30] (spec_CardsText.calls k _ _ t127 t144 t145 _ (WR HO129) (CR HO129) A16.out) ?_;rintro e w36 ⟨rfl,hb⟩;refine ⟨_,rfl,?_⟩;replace HO105 := ZBR HO105 hb;replace HO109 := ZBR HO109 hb;replace HO113 := ZBR HO113 hb;replace HO118 := ZBR HO118 hb;replace HO122 := ZBR HO122 hb;replace HO126 := ZBR HO126 hb;replace HO129 := ZBR HO129 hb;replace HO133 := ZBR HO133 hb;replace HO137 := ZBR HO137 hb;replace HB := BS HB hb)|((with_reducible refine YG 36 ?_);refine YC (some 133) Tryd.func36 #[.slice A1 l1.length c1] (spec_DrawDueCards.calls k _ _ l1 t146 t147 _ (ZR (Kd.C_below HR1.out HB.out)) HC1.out A17.out) ?_;rintro e w37 ⟨v148,rfl,ho0,hb⟩;refine ⟨_,rfl,?_⟩;replace HO109 := ZBR HO109 hb;replace HO113 := ZBR HO113 hb;replace HO133 := ZBR HO133 hb;replace HO137 := ZBR HO137 hb;have HO149 := ZA (Kd.R_lower (Kd.R_new' (Kd.R_new' (Kd.R_new' (Kd.R_new' (Kd.R_new' ho0 (Kd.R_lt (ZK HO105))) (Kd.R_lt (ZK HO118))) (Kd.R_lt (ZK HO122))) (Kd.R_lt (ZK HO126))) (Kd.R_lt (ZK HO129))) (SZ HB));replace HO105 := ZA (Kd.R_elder' (ZK HO105) (Kd.R_base ho0) hb);replace HO118 := ZA (Kd.R_elder' (ZK HO118) (Kd.R_base ho0) hb);replace HO122 := ZA (Kd.R_elder' (ZK HO122) (Kd.R_base ho0) hb);replace HO126 := ZA (Kd.R_elder' (ZK HO126) (Kd.R_base ho0) hb);replace HO129 := ZA (Kd.R_elder' (ZK HO129) (Kd.R_base ho0) hb);replace HB := BS HB hb;obtain ⟨Ao38,co38,eo38⟩ := Kd.R_slice HO149.out;subst eo38)|((with_reducible refine YG 37 ?_);refine YC (some 139) Tryd.func37 #[.slice Ao38 t146.length co38,.int .i64 t147] (impl_DueCards.calls k _ _ t146 t147 t150 t151 _ (WR HO149) (CR HO149) A18.out) ?_;rintro e w39 ⟨v152,rfl,ho0,hb⟩;refine ⟨_,rfl,?_⟩;replace HO105 := ZBR HO105 hb;replace HO118 := ZBR HO118 hb;replace HO122 := ZBR HO122 hb;replace HO126 := ZBR HO126 hb;replace HO129 := ZBR HO129 hb;replace HO133 := ZBR HO133 hb;replace HO137 := ZBR HO137 hb;replace HO149 := ZBR HO149 hb;have HO153 := ZA (Kd.R_lower (Kd.R_new' (Kd.R_new' ho0 (Kd.R_lt (ZK HO109))) (Kd.R_lt (ZK HO113))) (SZ HB));replace HO109 := ZA (Kd.R_elder' (ZK HO109) (Kd.R_base ho0) hb);replace HO113 := ZA (Kd.R_elder' (ZK HO113) (Kd.R_base ho0) hb);replace HB := BS HB hb)|((with_reducible refine YG 38 ?_);refine YC (some 145) Tryd.func38 #[.slice Ao38 t146.length co38,.int .i64 t147] (spec_DueCards.calls k _ _ t146 t147 t154 t155 _ (WR HO149) (CR HO149) A19.out) ?_;rintro e w40 ⟨v156,rfl,ho0,hb⟩;refine ⟨_,rfl,?_⟩;replace HO105 := ZBR HO105 hb;replace HO118 := ZBR HO118 hb;replace HO122 := ZBR HO122 hb;replace HO126 := ZBR HO126 hb;replace HO129 := ZBR HO129 hb;replace HO133 := ZBR HO133 hb;replace HO137 := ZBR HO137 hb;replace HO149 := ZBR HO149 hb;have HO157 := ZA (Kd.R_lower (Kd.R_new' (Kd.R_new' (Kd.R_new' ho0 (Kd.R_lt (ZK HO109))) (Kd.R_lt (ZK HO113))) (Kd.R_lt (ZK HO153))) (SZ HB));replace HO109 := ZA (Kd.R_elder' (ZK HO109) (Kd.R_base ho0) hb);replace HO113 := ZA (Kd.R_elder' (ZK HO113) (Kd.R_base ho0) hb);replace HO153 := ZA (Kd.R_elder' (ZK HO153) (Kd.R_base ho0) hb);replace HB := BS HB hb))
 (try simp only [Act.put,zuA,zuB,zuC])
 go_cut [230] from 46 to 230 (fun v230 wc => ∃ (kq : Nat) (x230_19 : Bool),v230 = .bool x230_19 ∧ Aside0 (laws_FnCards.j0 kq t101 t102 t103 t107 t110 t114 t115 t116 t119 t120 t123 t127 t131 t134 t139 t140 x230_19 = some r) ∧ Aside0 (kq <= k) ∧ Aside0 (Kd.R k94 94 wc w.heap.size (fun k_ => some k_ ≠ ((.slice Ao26 t114.length co26) : Value).ownBlock ∧ some k_ ≠ (v121 : Value).ownBlock ∧ some k_ ≠ (v125 : Value).ownBlock ∧ some k_ ≠ ((.slice Ao30 t127.length co30) : Value).ownBlock) (.slice Ao22 t101.length co22) t101) ∧ Aside0 (Kd.R Kd.string 9 wc w.heap.size (fun _ => True) v112 t110) ∧ Aside0 (Kd.R k94 94 wc w.heap.size (fun k_ => some k_ ≠ ((.slice Ao22 t101.length co22) : Value).ownBlock ∧ some k_ ≠ (v121 : Value).ownBlock ∧ some k_ ≠ (v125 : Value).ownBlock ∧ some k_ ≠ ((.slice Ao30 t127.length co30) : Value).ownBlock) (.slice Ao26 t114.length co26) t114) ∧ Aside0 (Kd.R k94 94 wc w.heap.size (fun k_ => some k_ ≠ ((.slice Ao22 t101.length co22) : Value).ownBlock ∧ some k_ ≠ ((.slice Ao26 t114.length co26) : Value).ownBlock ∧ some k_ ≠ (v125 : Value).ownBlock ∧ some k_ ≠ ((.slice Ao30 t127.length co30) : Value).ownBlock) v121 t119) ∧ Aside0 (Kd.R k94 94 wc w.heap.size (fun k_ => some k_ ≠ ((.slice Ao22 t101.length co22) : Value).ownBlock ∧ some k_ ≠ ((.slice Ao26 t114.length co26) : Value).ownBlock ∧ some k_ ≠ (v121 : Value).ownBlock ∧ some k_ ≠ ((.slice Ao30 t127.length co30) : Value).ownBlock) v125 t123) ∧ Aside0 (Kd.R k94 94 wc w.heap.size (fun k_ => some k_ ≠ ((.slice Ao22 t101.length co22) : Value).ownBlock ∧ some k_ ≠ ((.slice Ao26 t114.length co26) : Value).ownBlock ∧ some k_ ≠ (v121 : Value).ownBlock ∧ some k_ ≠ (v125 : Value).ownBlock) (.slice Ao30 t127.length co30) t127) ∧ Aside0 (Kd.R (Kd.int .i64) 3 wc w.heap.size (fun _ => True) v136 t134) ∧ Aside0 (Below w.heap.size w wc))
 case first =>
  have H := HC20.out;clear HC20;by_cases c41 : (t107 != t111) = true
  ·rw [if_pos c41] at H;exact absurd H (by simp)
  rw [if_neg c41] at H;have c41b0 : (t107 != t111) = false := by simpa using c41
  (try (have c41b1 : decide (t107 = t111) = true := by simpa using c41))
  (try (have c41b2 : (t107 == t111) = true := by simpa using c41))
  clear c41
  (first|rw [c41b0]|rw [c41b1]|(simp only [i64_w,i32_w];rw [c41b0])|skip)
  replace H := YJ H;obtain ⟨t158,A42,H⟩ := H;try dsimp only at H
  replace H := YF H;rcases H with ⟨rfl,H⟩|⟨rfl,H⟩;rotate_left
  ·exact absurd H (by simp)
  by_cases c44 : (t120 != t124) = true
  ·rw [if_pos c44] at H;exact absurd H (by simp)
  rw [if_neg c44] at H;have c44b0 : (t120 != t124) = false := by simpa using c44
  (try (have c44b1 : decide (t120 = t124) = true := by simpa using c44))
  (try (have c44b2 : (t120 == t124) = true := by simpa using c44))
  clear c44;replace H := YJ H;obtain ⟨t159,A45,H⟩ := H;try dsimp only at H
  replace H := YF H;rcases H with ⟨rfl,H⟩|⟨rfl,H⟩;rotate_left
  ·exact absurd H (by simp)
  by_cases c47 : (t131 != t135) = true
  ·rw [if_pos c47] at H;exact absurd H (by simp)
  rw [if_neg c47] at H;have c47b0 : (t131 != t135) = false := by simpa using c47
  (try (have c47b1 : decide (t131 = t135) = true := by simpa using c47))
  (try (have c47b2 : (t131 == t135) = true := by simpa using c47))
  clear c47;replace H := YJ H;obtain ⟨t160,A48,H⟩ := H;try dsimp only at H
  replace H := YF H;rcases H with ⟨rfl,H⟩|⟨rfl,H⟩;rotate_left
  ·exact absurd H (by simp)
  by_cases c50 : (t139 != t141) = true
  ·rw [if_pos c50] at H;exact absurd H (by simp)
  rw [if_neg c50] at H;have c50b0 : (t139 != t141) = false := by simpa using c50
  (try (have c50b1 : decide (t139 = t141) = true := by simpa using c50))
  (try (have c50b2 : (t139 == t141) = true := by simpa using c50))
  clear c50;replace H := YM H;obtain ⟨c51,H⟩ := H;have c51b0 : (t138 == t140) = true := beq_iff_eq.mpr c51;have c51b1 : (t138 != t140) = false := bne_eq_false_iff_eq.mpr c51;clear c51;by_cases c52 : (t143 != t145) = true
  ·rw [if_pos c52] at H;exact absurd H (by simp)
  rw [if_neg c52] at H;have c52b0 : (t143 != t145) = false := by simpa using c52
  (try (have c52b1 : decide (t143 = t145) = true := by simpa using c52))
  (try (have c52b2 : (t143 == t145) = true := by simpa using c52))
  clear c52;replace H := YM H;obtain ⟨c53,H⟩ := H;have c53b0 : (t142.toList == t144.toList) = true := beq_iff_eq.mpr c53;have c53b1 : (t142.toList != t144.toList) = false := bne_eq_false_iff_eq.mpr c53;clear c53;by_cases c54 : (t151 != t155) = true
  ·rw [if_pos c54] at H;exact absurd H (by simp)
  rw [if_neg c54] at H;have c54b0 : (t151 != t155) = false := by simpa using c54
  (try (have c54b1 : decide (t151 = t155) = true := by simpa using c54))
  (try (have c54b2 : (t151 == t155) = true := by simpa using c54))
  clear c54;replace H := YJ H;obtain ⟨t161,A55,H⟩ := H;try dsimp only at H
  replace H := YF H;rcases H with ⟨rfl,H⟩|⟨rfl,H⟩;rotate_left
  ·exact absurd H (by simp)
  replace H := YJ H;obtain ⟨t162,A57,H⟩ := H;try dsimp only at H
  by_cases c58 : (t131 != t162) = true
  ·rw [if_pos c58] at H;exact absurd H (by simp)
  rw [if_neg c58] at H;have c58b0 : (t131 != t162) = false := by simpa using c58
  (try (have c58b1 : decide (t131 = t162) = true := by simpa using c58))
  (try (have c58b2 : (t131 == t162) = true := by simpa using c58))
  clear c58;by_cases c59 : (t143 != t131) = true
  ·rw [if_pos c59] at H;exact absurd H (by simp)
  rw [if_neg c59] at H;have c59b0 : (t143 != t131) = false := by simpa using c59
  (try (have c59b1 : decide (t143 = t131) = true := by simpa using c59))
  (try (have c59b2 : (t143 == t131) = true := by simpa using c59))
  clear c59;by_cases c60 : t131 = true
  ·subst c60;rw [if_pos rfl] at H
   as_aux_lemma =>
    have H' := ZA H;clear H;obtain ⟨Ao61,co61,eo61⟩ := Kd.R_slice HO109.out;subst eo61;obtain ⟨Ao62,co62,eo62⟩ := Kd.R_slice HO113.out;subst eo62
    go_wp2_with (first|(go_at_call 39;(with_reducible refine (laws_qTexts.calls k _ _ t106 _ _ t110 true _ (WR HO109) (CR HO109) (WR HO113) (CR HO113) A42.out).mono ?_);rintro e w' ⟨rfl,⟨nd,rfl⟩⟩;obtain ⟨Ao63,co63,eo63⟩ := Kd.R_slice HO122.out;subst eo63;obtain ⟨Ao64,co64,eo64⟩ := Kd.R_slice HO126.out;subst eo64)|(go_at_call 40;(with_reducible refine (laws_qCards.calls k _ _ t119 _ _ t123 true _ (WR HO122) (CR HO122) (WR HO126) (CR HO126) A45.out).mono ?_);rintro e w' ⟨rfl,⟨nd,rfl⟩⟩;obtain ⟨Ao65,co65,eo65⟩ := Kd.R_slice HO133.out;subst eo65;obtain ⟨Ao66,co66,eo66⟩ := Kd.R_slice HO137.out;subst eo66)|(go_at_call 19;(with_reducible refine (laws_qInts.calls k _ _ t130 _ _ t134 true _ (WR HO133) (CR HO133) (WR HO137) (CR HO137) A48.out).mono ?_);rintro e w' ⟨rfl,⟨nd,rfl⟩⟩;obtain ⟨Ao67,co67,eo67⟩ := Kd.R_slice HO153.out;subst eo67;obtain ⟨Ao68,co68,eo68⟩ := Kd.R_slice HO157.out;subst eo68)|(go_at_call 39;(with_reducible refine (laws_qTexts.calls k _ _ t150 _ _ t154 true _ (WR HO153) (CR HO153) (WR HO157) (CR HO157) A55.out).mono ?_);rintro e w' ⟨rfl,⟨nd,rfl⟩⟩)|(go_at_call 41;(with_reducible refine (impl_AreCards.calls k _ _ t127 t162 _ (WR HO129) (CR HO129) A57.out).mono ?_);rintro e w69 ⟨rfl,hb⟩;replace HO105 := ZBR HO105 hb;replace HO109 := ZBR HO109 hb;replace HO113 := ZBR HO113 hb;replace HO118 := ZBR HO118 hb;replace HO122 := ZBR HO122 hb;replace HO126 := ZBR HO126 hb;replace HO129 := ZBR HO129 hb;replace HO133 := ZBR HO133 hb;replace HO137 := ZBR HO137 hb;replace HO149 := ZBR HO149 hb;replace HO153 := ZBR HO153 hb;replace HO157 := ZBR HO157 hb;replace HB := BS HB hb))
    go_meet
    case rel => exact ⟨_,((t139 != (decide ((t127.length : Int) > 0)))),(by first|rfl|(simp [bne];done)),H',⟨YO⟩,⟨ZK ⟨Kd.R_mono HO105.out (fun _ hk => ⟨hk.1.1.1.1.2,⟨hk.1.1.1.2,⟨hk.1.1.2,hk.1.2⟩⟩⟩)⟩⟩,⟨ZK ⟨Kd.R_mono HO113.out (fun _ hk => trivial)⟩⟩,⟨ZK ⟨Kd.R_mono HO118.out (fun _ hk => ⟨hk.1.1.1.1.2,⟨hk.1.1.1.2,⟨hk.1.1.2,hk.1.2⟩⟩⟩)⟩⟩,⟨ZK ⟨Kd.R_mono HO122.out (fun _ hk => ⟨hk.1.1.1.1.2,⟨hk.1.1.1.2,⟨hk.1.1.2,hk.1.2⟩⟩⟩)⟩⟩,⟨ZK ⟨Kd.R_mono HO126.out (fun _ hk => ⟨hk.1.1.1.1.2,⟨hk.1.1.1.2,⟨hk.1.1.2,hk.1.2⟩⟩⟩)⟩⟩,⟨ZK ⟨Kd.R_mono HO129.out (fun _ hk => ⟨hk.1.1.1.1.2,⟨hk.1.1.1.2,⟨hk.1.1.2,hk.1.2⟩⟩⟩)⟩⟩,⟨ZK ⟨Kd.R_mono HO137.out (fun _ hk => trivial)⟩⟩,⟨ZQ HB⟩⟩
  replace c60 := Bool.eq_false_iff.mpr c60;subst c60;rw [if_neg (show ¬ (false = true) by decide)] at H
  as_aux_lemma =>
   have H' := ZA H;clear H;obtain ⟨Ao70,co70,eo70⟩ := Kd.R_slice HO109.out;subst eo70;obtain ⟨Ao71,co71,eo71⟩ := Kd.R_slice HO113.out;subst eo71
   go_wp2_with (first|(go_at_call 39;(with_reducible refine (laws_qTexts.calls k _ _ t106 _ _ t110 true _ (WR HO109) (CR HO109) (WR HO113) (CR HO113) A42.out).mono ?_);rintro e w' ⟨rfl,⟨nd,rfl⟩⟩;obtain ⟨Ao72,co72,eo72⟩ := Kd.R_slice HO122.out;subst eo72;obtain ⟨Ao73,co73,eo73⟩ := Kd.R_slice HO126.out;subst eo73)|(go_at_call 40;(with_reducible refine (laws_qCards.calls k _ _ t119 _ _ t123 true _ (WR HO122) (CR HO122) (WR HO126) (CR HO126) A45.out).mono ?_);rintro e w' ⟨rfl,⟨nd,rfl⟩⟩;obtain ⟨Ao74,co74,eo74⟩ := Kd.R_slice HO133.out;subst eo74;obtain ⟨Ao75,co75,eo75⟩ := Kd.R_slice HO137.out;subst eo75)|(go_at_call 19;(with_reducible refine (laws_qInts.calls k _ _ t130 _ _ t134 true _ (WR HO133) (CR HO133) (WR HO137) (CR HO137) A48.out).mono ?_);rintro e w' ⟨rfl,⟨nd,rfl⟩⟩;obtain ⟨Ao76,co76,eo76⟩ := Kd.R_slice HO153.out;subst eo76;obtain ⟨Ao77,co77,eo77⟩ := Kd.R_slice HO157.out;subst eo77)|(go_at_call 39;(with_reducible refine (laws_qTexts.calls k _ _ t150 _ _ t154 true _ (WR HO153) (CR HO153) (WR HO157) (CR HO157) A55.out).mono ?_);rintro e w' ⟨rfl,⟨nd,rfl⟩⟩)|(go_at_call 41;(with_reducible refine (impl_AreCards.calls k _ _ t127 t162 _ (WR HO129) (CR HO129) A57.out).mono ?_);rintro e w78 ⟨rfl,hb⟩;replace HO105 := ZBR HO105 hb;replace HO109 := ZBR HO109 hb;replace HO113 := ZBR HO113 hb;replace HO118 := ZBR HO118 hb;replace HO122 := ZBR HO122 hb;replace HO126 := ZBR HO126 hb;replace HO129 := ZBR HO129 hb;replace HO133 := ZBR HO133 hb;replace HO137 := ZBR HO137 hb;replace HO149 := ZBR HO149 hb;replace HO153 := ZBR HO153 hb;replace HO157 := ZBR HO157 hb;replace HB := BS HB hb))
   go_meet
   case rel => exact ⟨_,((t139 != false)),ZG,H',⟨YO⟩,⟨ZK ⟨Kd.R_mono HO105.out (fun _ hk => ⟨hk.1.1.1.1.2,⟨hk.1.1.1.2,⟨hk.1.1.2,hk.1.2⟩⟩⟩)⟩⟩,⟨ZK ⟨Kd.R_mono HO113.out (fun _ hk => trivial)⟩⟩,⟨ZK ⟨Kd.R_mono HO118.out (fun _ hk => ⟨hk.1.1.1.1.2,⟨hk.1.1.1.2,⟨hk.1.1.2,hk.1.2⟩⟩⟩)⟩⟩,⟨ZK ⟨Kd.R_mono HO122.out (fun _ hk => ⟨hk.1.1.1.1.2,⟨hk.1.1.1.2,⟨hk.1.1.2,hk.1.2⟩⟩⟩)⟩⟩,⟨ZK ⟨Kd.R_mono HO126.out (fun _ hk => ⟨hk.1.1.1.1.2,⟨hk.1.1.1.2,⟨hk.1.1.2,hk.1.2⟩⟩⟩)⟩⟩,⟨ZK ⟨Kd.R_mono HO129.out (fun _ hk => ⟨hk.1.1.1.1.2,⟨hk.1.1.1.2,⟨hk.1.1.2,hk.1.2⟩⟩⟩)⟩⟩,⟨ZK ⟨Kd.R_mono HO137.out (fun _ hk => trivial)⟩⟩,⟨ZQ HB⟩⟩
 case rest =>
  clear HC20;obtain ⟨kq,x230_19,rfl,HA,HJ19,HO_5,HO_10,HO_12,HO_15,HO_17,HO_19,HO_22,HB⟩ := hcut;cases kq with
  | zero => exact absurd HA.out (by simp [laws_FnCards.j0])
  | succ kj19 =>
   have H := HA.out;clear HA;simp only [laws_FnCards.j0] at H;by_cases c79 : x230_19 = true
   ·subst c79;rw [if_pos rfl] at H;exact absurd H (by simp)
   replace c79 := Bool.eq_false_iff.mpr c79;subst c79;rw [if_neg (show ¬ (false = true) by decide)] at H;have HC80 := ZA H;clear H
   go_upto_if 231 with (fail)
   go_cut [] from 231 to 231 (fun wc => ∃ (kq : Nat),Aside0 (laws_FnCards.j3 kq t114 t115 t116 t119 t120 t123 t127 t131 t134 t139 t140 = some r) ∧ Aside0 (kq <= kj19) ∧ Aside0 (Kd.R k94 94 wc w.heap.size (fun k_ => some k_ ≠ (v121 : Value).ownBlock ∧ some k_ ≠ (v125 : Value).ownBlock ∧ some k_ ≠ ((.slice Ao30 t127.length co30) : Value).ownBlock) (.slice Ao26 t114.length co26) t114) ∧ Aside0 (Kd.R k94 94 wc w.heap.size (fun k_ => some k_ ≠ ((.slice Ao26 t114.length co26) : Value).ownBlock ∧ some k_ ≠ (v125 : Value).ownBlock ∧ some k_ ≠ ((.slice Ao30 t127.length co30) : Value).ownBlock) v121 t119) ∧ Aside0 (Kd.R k94 94 wc w.heap.size (fun k_ => some k_ ≠ ((.slice Ao26 t114.length co26) : Value).ownBlock ∧ some k_ ≠ (v121 : Value).ownBlock ∧ some k_ ≠ ((.slice Ao30 t127.length co30) : Value).ownBlock) v125 t123) ∧ Aside0 (Kd.R k94 94 wc w.heap.size (fun k_ => some k_ ≠ ((.slice Ao26 t114.length co26) : Value).ownBlock ∧ some k_ ≠ (v121 : Value).ownBlock ∧ some k_ ≠ (v125 : Value).ownBlock) (.slice Ao30 t127.length co30) t127) ∧ Aside0 (Kd.R (Kd.int .i64) 3 wc w.heap.size (fun _ => True) v136 t134) ∧ Aside0 (Below w.heap.size w wc))
   case first =>
    have H := HC80.out;clear HC80;replace H := YF H;rcases H with ⟨rfl,H⟩|⟨rfl,H⟩;rotate_left
    ·as_aux_lemma =>
      have H' := ZA H;clear H;go_wp2;go_meet
      case rel => exact ⟨_,H',⟨by have := HJ19.out;first|omega|exact Nat.le_refl _⟩,⟨ZK ⟨Kd.R_mono HO_12.out (fun _ hk => ⟨hk.2.1,⟨hk.2.2.1,hk.2.2.2⟩⟩)⟩⟩,⟨ZK ⟨Kd.R_mono HO_15.out (fun _ hk => ⟨hk.2.1,⟨hk.2.2.1,hk.2.2.2⟩⟩)⟩⟩,⟨ZK ⟨Kd.R_mono HO_17.out (fun _ hk => ⟨hk.2.1,⟨hk.2.2.1,hk.2.2.2⟩⟩)⟩⟩,⟨ZK ⟨Kd.R_mono HO_19.out (fun _ hk => ⟨hk.2.1,⟨hk.2.2.1,hk.2.2.2⟩⟩)⟩⟩,⟨ZK HO_22⟩,⟨ZQ HB⟩⟩
    replace H := YJ H;obtain ⟨⟨t163,t164⟩,A82,H⟩ := H;try dsimp only at H
    replace H := YJ H;obtain ⟨⟨t167,t168⟩,A83,H⟩ := H;try dsimp only at H
    have HC84 := ZA H;clear H
    go_upto_region 24 with (first|((with_reducible refine YG 37 ?_);refine YC (some 235) Tryd.func37 #[.slice Ao22 t101.length co22,.int .i64 t102] (impl_DueCards.calls kj19 _ _ t101 t102 t163 t164 _ (WR HO_5) (CR HO_5) A82.out) ?_;rintro e w85 ⟨v165,rfl,ho0,hb⟩;refine ⟨_,rfl,?_⟩;replace HO_5 := ZBR HO_5 hb;replace HO_12 := ZBR HO_12 hb;replace HO_15 := ZBR HO_15 hb;replace HO_17 := ZBR HO_17 hb;replace HO_19 := ZBR HO_19 hb;replace HO_22 := ZBR HO_22 hb;have HO166 := ZA (Kd.R_lower (Kd.R_new' ho0 (Kd.R_lt (ZK HO_10))) (SZ HB));replace HO_10 := ZA (Kd.R_elder' (ZK HO_10) (Kd.R_base ho0) hb);replace HB := BS HB hb)|((with_reducible refine YG 38 ?_);refine YC (some 241) Tryd.func38 #[.slice Ao22 t101.length co22,.int .i64 t102] (spec_DueCards.calls kj19 _ _ t101 t102 t167 t168 _ (WR HO_5) (CR HO_5) A83.out) ?_;rintro e w86 ⟨v169,rfl,ho0,hb⟩;refine ⟨_,rfl,?_⟩;replace HO_5 := ZBR HO_5 hb;replace HO_12 := ZBR HO_12 hb;replace HO_15 := ZBR HO_15 hb;replace HO_17 := ZBR HO_17 hb;replace HO_19 := ZBR HO_19 hb;replace HO_22 := ZBR HO_22 hb;have HO170 := ZA (Kd.R_lower (Kd.R_new' (Kd.R_new' ho0 (Kd.R_lt (ZK HO_10))) (Kd.R_lt (ZK HO166))) (SZ HB));replace HO_10 := ZA (Kd.R_elder' (ZK HO_10) (Kd.R_base ho0) hb);replace HO166 := ZA (Kd.R_elder' (ZK HO166) (Kd.R_base ho0) hb);replace HB := BS HB hb))
    (try simp only [Act.put,zuA,zuB,zuC])
    go_cut [281] from 231 to 281 (fun v281 wc => ∃ (kq : Nat) (x281_83 : Bool),v281 = .bool x281_83 ∧ Aside0 (laws_FnCards.j1 kq t110 t114 t115 t116 t119 t120 t123 t127 t131 t134 t139 t140 t167 x281_83 = some r) ∧ Aside0 (kq <= kj19) ∧ Aside0 (Kd.R Kd.string 9 wc w.heap.size (fun k_ => some k_ ≠ (v169 : Value).ownBlock) v112 t110) ∧ Aside0 (Kd.R k94 94 wc w.heap.size (fun k_ => some k_ ≠ (v121 : Value).ownBlock ∧ some k_ ≠ (v125 : Value).ownBlock ∧ some k_ ≠ ((.slice Ao30 t127.length co30) : Value).ownBlock) (.slice Ao26 t114.length co26) t114) ∧ Aside0 (Kd.R k94 94 wc w.heap.size (fun k_ => some k_ ≠ ((.slice Ao26 t114.length co26) : Value).ownBlock ∧ some k_ ≠ (v125 : Value).ownBlock ∧ some k_ ≠ ((.slice Ao30 t127.length co30) : Value).ownBlock) v121 t119) ∧ Aside0 (Kd.R k94 94 wc w.heap.size (fun k_ => some k_ ≠ ((.slice Ao26 t114.length co26) : Value).ownBlock ∧ some k_ ≠ (v121 : Value).ownBlock ∧ some k_ ≠ ((.slice Ao30 t127.length co30) : Value).ownBlock) v125 t123) ∧ Aside0 (Kd.R k94 94 wc w.heap.size (fun k_ => some k_ ≠ ((.slice Ao26 t114.length co26) : Value).ownBlock ∧ some k_ ≠ (v121 : Value).ownBlock ∧ some k_ ≠ (v125 : Value).ownBlock) (.slice Ao30 t127.length co30) t127) ∧ Aside0 (Kd.R (Kd.int .i64) 3 wc w.heap.size (fun _ => True) v136 t134) ∧ Aside0 (Kd.R Kd.string 9 wc w.heap.size (fun k_ => some k_ ≠ (v112 : Value).ownBlock) v169 t167) ∧ Aside0 (Below w.heap.size w wc))
    case first =>
     have H := HC84.out;clear HC84;replace H := YF H;rcases H with ⟨rfl,H⟩|⟨rfl,H⟩;rotate_left
     ·exact absurd H (by simp)
     replace H := YF H;rcases H with ⟨rfl,H⟩|⟨rfl,H⟩;rotate_left
     ·exact absurd H (by simp)
     replace H := YJ H;obtain ⟨t171,A89,H⟩ := H;try dsimp only at H
     replace H := YF H;rcases H with ⟨rfl,H⟩|⟨rfl,H⟩;rotate_left
     ·exact absurd H (by simp)
     by_cases c91 : (t110.length : Int) > t103
     ·rw [if_pos c91] at H;exact absurd H (by simp)
     rw [if_neg c91] at H;have c91b0 := decide_eq_false c91;clear c91
     (first|rw [c91b0]|rw [c91b1]|(simp only [i64_w,i32_w];rw [c91b0])|skip)
     by_cases c92 : (t110.length : Int) > (t167.length : Int)
     ·rw [if_pos c92] at H;exact absurd H (by simp)
     rw [if_neg c92] at H;have c92b0 := decide_eq_false c92;have c92b1 : decide (t167.length < t110.length) = false := decide_eq_false (fun h => c92 (Int.ofNat_lt.mpr h));clear c92;replace H := YI H;rcases H with ⟨c93b0,H⟩|⟨c93b0,H⟩;rotate_left
     ·as_aux_lemma =>
       have H' := ZA H;clear H;obtain ⟨Ao97,co97,eo97⟩ := Kd.R_slice HO166.out;subst eo97;obtain ⟨Ao98,co98,eo98⟩ := Kd.R_slice HO170.out;subst eo98
       go_wp2_with (first|(go_at_call 39;(with_reducible refine (laws_qTexts.calls kj19 _ _ t163 _ _ t167 true _ (WR HO166) (CR HO166) (WR HO170) (CR HO170) A89.out).mono ?_);rintro e w' ⟨rfl,⟨nd,rfl⟩⟩;obtain ⟨Ao99,co99,eo99⟩ := Kd.R_slice HO_10.out;subst eo99))
       go_meet
       case rel => exact ⟨_,(false),ZG,H',⟨by have := HJ19.out;first|omega|exact Nat.le_refl _⟩,⟨ZK ⟨Kd.R_mono HO_10.out (fun _ hk => hk.2)⟩⟩,⟨ZK ⟨Kd.R_mono HO_12.out (fun _ hk => ⟨hk.2.1,⟨hk.2.2.1,hk.2.2.2⟩⟩)⟩⟩,⟨ZK ⟨Kd.R_mono HO_15.out (fun _ hk => ⟨hk.2.1,⟨hk.2.2.1,hk.2.2.2⟩⟩)⟩⟩,⟨ZK ⟨Kd.R_mono HO_17.out (fun _ hk => ⟨hk.2.1,⟨hk.2.2.1,hk.2.2.2⟩⟩)⟩⟩,⟨ZK ⟨Kd.R_mono HO_19.out (fun _ hk => ⟨hk.2.1,⟨hk.2.2.1,hk.2.2.2⟩⟩)⟩⟩,⟨ZK HO_22⟩,⟨ZK ⟨Kd.R_mono HO170.out (fun _ hk => hk.1.2)⟩⟩,⟨ZQ HB⟩⟩
     as_aux_lemma =>
      have H' := ZA H;clear H;obtain ⟨Ao94,co94,eo94⟩ := Kd.R_slice HO166.out;subst eo94;obtain ⟨Ao95,co95,eo95⟩ := Kd.R_slice HO170.out;subst eo95
      go_wp2_with (first|(go_at_call 39;(with_reducible refine (laws_qTexts.calls kj19 _ _ t163 _ _ t167 true _ (WR HO166) (CR HO166) (WR HO170) (CR HO170) A89.out).mono ?_);rintro e w' ⟨rfl,⟨nd,rfl⟩⟩;obtain ⟨Ao96,co96,eo96⟩ := Kd.R_slice HO_10.out;subst eo96))
      go_meet
      case rel => exact ⟨_,(((t110.length : Int) != (t167.length : Int))),ZG,H',⟨by have := HJ19.out;first|omega|exact Nat.le_refl _⟩,⟨ZK ⟨Kd.R_mono HO_10.out (fun _ hk => hk.2)⟩⟩,⟨ZK ⟨Kd.R_mono HO_12.out (fun _ hk => ⟨hk.2.1,⟨hk.2.2.1,hk.2.2.2⟩⟩)⟩⟩,⟨ZK ⟨Kd.R_mono HO_15.out (fun _ hk => ⟨hk.2.1,⟨hk.2.2.1,hk.2.2.2⟩⟩)⟩⟩,⟨ZK ⟨Kd.R_mono HO_17.out (fun _ hk => ⟨hk.2.1,⟨hk.2.2.1,hk.2.2.2⟩⟩)⟩⟩,⟨ZK ⟨Kd.R_mono HO_19.out (fun _ hk => ⟨hk.2.1,⟨hk.2.2.1,hk.2.2.2⟩⟩)⟩⟩,⟨ZK HO_22⟩,⟨ZK ⟨Kd.R_mono HO170.out (fun _ hk => hk.1.2)⟩⟩,⟨ZQ HB⟩⟩
    case rest =>
     clear HC84;obtain ⟨kq,x281_83,rfl,HA,HJ83,HO_10,HO_12,HO_15,HO_17,HO_19,HO_22,HO_40,HB⟩ := hcut;cases kq with
     | zero => exact absurd HA.out (by simp [laws_FnCards.j1])
     | succ kj83 =>
      have H := HA.out;clear HA;simp only [laws_FnCards.j1] at H;by_cases c100 : x281_83 = true
      ·subst c100;rw [if_pos rfl] at H;exact absurd H (by simp)
      replace c100 := Bool.eq_false_iff.mpr c100;subst c100;rw [if_neg (show ¬ (false = true) by decide)] at H;have H' := ZA H;clear H;obtain ⟨Ao101,co101,eo101⟩ := Kd.R_slice HO_10.out;subst eo101;go_wp2
      go_loopg [284] kj83 (fun kq v284 w' => ∃ (x284_3 : Int),v284 = .int .i64 x284_3 ∧ Aside0 (laws_FnCards.l0 kq t114 t115 t116 t119 t120 t123 t127 t131 t134 t139 t140 t167 t110 (t110.length : Int) x284_3 = some r) ∧ Aside0 (kq <= kj83) ∧ Aside0 (Kd.R k94 94 w' w.heap.size (fun k_ => some k_ ≠ (v121 : Value).ownBlock ∧ some k_ ≠ (v125 : Value).ownBlock ∧ some k_ ≠ ((.slice Ao30 t127.length co30) : Value).ownBlock) (.slice Ao26 t114.length co26) t114) ∧ Aside0 (Kd.R k94 94 w' w.heap.size (fun k_ => some k_ ≠ ((.slice Ao26 t114.length co26) : Value).ownBlock ∧ some k_ ≠ (v125 : Value).ownBlock ∧ some k_ ≠ ((.slice Ao30 t127.length co30) : Value).ownBlock) v121 t119) ∧ Aside0 (Kd.R k94 94 w' w.heap.size (fun k_ => some k_ ≠ ((.slice Ao26 t114.length co26) : Value).ownBlock ∧ some k_ ≠ (v121 : Value).ownBlock ∧ some k_ ≠ ((.slice Ao30 t127.length co30) : Value).ownBlock) v125 t123) ∧ Aside0 (Kd.R k94 94 w' w.heap.size (fun k_ => some k_ ≠ ((.slice Ao26 t114.length co26) : Value).ownBlock ∧ some k_ ≠ (v121 : Value).ownBlock ∧ some k_ ≠ (v125 : Value).ownBlock) (.slice Ao30 t127.length co30) t127) ∧ Aside0 (Kd.R (Kd.int .i64) 3 w' w.heap.size (fun _ => True) v136 t134) ∧ Aside0 (Kd.R Kd.string 9 w' w.heap.size (fun k_ => some k_ ≠ ((.slice Ao101 t110.length co101) : Value).ownBlock) v169 t167) ∧ Aside0 (Kd.R Kd.string 9 w' w.heap.size (fun k_ => some k_ ≠ (v169 : Value).ownBlock) (.slice Ao101 t110.length co101) t110) ∧ Aside0 (Below w.heap.size w w'))
      case atStart => exact ⟨(0),ZG,H',⟨Nat.le_refl _⟩,⟨ZK HO_12⟩,⟨ZK HO_15⟩,⟨ZK HO_17⟩,⟨ZK HO_19⟩,⟨ZK HO_22⟩,⟨ZK HO_40⟩,⟨ZK HO_10⟩,⟨ZQ HB⟩⟩
      case round =>
       clear H';obtain ⟨x284_3,rfl,HA,HK3,HO_12,HO_15,HO_17,HO_19,HO_22,HO_40,HO_282,HB⟩ := hrel;cases gk with
       | zero => exact absurd HA.out (by simp [laws_FnCards.l0])
       | succ k3 =>
        have H := HA.out;clear HA;simp only [laws_FnCards.l0] at H;replace H := YI H;rcases H with ⟨c102b0,H⟩|⟨c102b0,H⟩;rotate_left
        ·as_aux_lemma =>
          have H' := ZA H;clear H;go_wp2;go_meet
          case rel => exact ⟨_,H',⟨by have := HJ19.out;have := HJ83.out;have := HK3.out;first|omega|exact Nat.le_refl _⟩,⟨ZK HO_12⟩,⟨ZK HO_15⟩,⟨ZK HO_17⟩,⟨ZK HO_19⟩,⟨ZK HO_22⟩,⟨ZQ HB⟩⟩
        replace H := YN H;obtain ⟨c103b0,H⟩ := H;replace H := YN H;obtain ⟨c104b0,H⟩ := H;replace H := YJ H;obtain ⟨t173,A105,H⟩ := H;try dsimp only at H
        replace H := YF H;rcases H with ⟨rfl,H⟩|⟨rfl,H⟩;rotate_left
        ·exact absurd H (by simp)
        as_aux_lemma =>
         have H' := ZA H;clear H;have p172 : 0 <= (x284_3 : Int) := ZD;have q172 : x284_3 < (t110.length : Int) := ZD;obtain ⟨ad172,e172,hx172_0⟩ := Kd.at_string (Kd.R_reads' HO_282.out).2.2 x284_3 p172 q172;cases e172;replace p172 := eq_true p172;replace q172 := eq_true q172;obtain ⟨Ao107,co107,eo107⟩ := Kd.R_slice HO_40.out;subst eo107
         go_wp2_with (first|((with_reducible refine YG 42 ?_);refine YC (some 290) Tryd.func42 #[.slice Ao107 t167.length co107,.string (rdOf ByteArray.empty t110 x284_3)] (laws_qSay.calls k3 _ _ t167 (rdOf ByteArray.empty t110 x284_3) true _ (WR HO_40) (CR HO_40) A105.out) ?_;rintro e w' ⟨rfl,⟨nd,rfl⟩⟩;refine ⟨_,rfl,?_⟩))
         go_roundg k3
         case measure => have := HJ19.out;have := HJ83.out;have := HK3.out;omega
         case rel => exact ⟨(wrap64 (x284_3 + 1)),ZG,H',⟨by have := HJ19.out;have := HJ83.out;have := HK3.out;omega⟩,⟨ZK HO_12⟩,⟨ZK HO_15⟩,⟨ZK HO_17⟩,⟨ZK HO_19⟩,⟨ZK HO_22⟩,⟨ZK HO_40⟩,⟨ZK HO_282⟩,⟨ZQ HB⟩⟩
   case rest =>
    clear HC80;obtain ⟨kq,HA,HJ79,HO_12,HO_15,HO_17,HO_19,HO_22,HB⟩ := hcut;cases kq with
    | zero => exact absurd HA.out (by simp [laws_FnCards.j3])
    | succ kj79 =>
     have H := HA.out;clear HA;simp only [laws_FnCards.j3] at H;have HC108 := ZA H;clear H
     go_upto_if 293 with (fail)
     go_cut [] from 232 to 293 (fun wc => ∃ (kq : Nat),Aside0 (laws_FnCards.j4 kq t127 t131 t134 t139 t140 = some r) ∧ Aside0 (kq <= kj79) ∧ Aside0 (Kd.R k94 94 wc w.heap.size (fun _ => True) (.slice Ao30 t127.length co30) t127) ∧ Aside0 (Kd.R (Kd.int .i64) 3 wc w.heap.size (fun _ => True) v136 t134) ∧ Aside0 (Below w.heap.size w wc))
     case first =>
      have H := HC108.out;clear HC108;replace H := YF H;rcases H with ⟨rfl,H⟩|⟨rfl,H⟩;rotate_left
      ·as_aux_lemma =>
        have H' := ZA H;clear H;go_wp2;go_meet
        case rel => exact ⟨_,H',⟨by have := HJ19.out;have := HJ79.out;first|omega|exact Nat.le_refl _⟩,⟨ZK ⟨Kd.R_mono HO_19.out (fun _ hk => trivial)⟩⟩,⟨ZK HO_22⟩,⟨ZQ HB⟩⟩
      replace H := YJ H;obtain ⟨⟨t174,t175⟩,A110,H⟩ := H;try dsimp only at H
      replace H := YF H;rcases H with ⟨rfl,H⟩|⟨rfl,H⟩;rotate_left
      ·exact absurd H (by simp)
      replace H := YJ H;obtain ⟨t178,A112,H⟩ := H;try dsimp only at H
      replace H := YF H;rcases H with ⟨rfl,H⟩|⟨rfl,H⟩;rotate_left
      ·exact absurd H (by simp)
      replace H := YM H;obtain ⟨c114,H⟩ := H;have c114b0 : ((t123.length : Int) == (wrap64 ((t114.length : Int) + 1))) = true := beq_iff_eq.mpr c114;have c114b1 : ((t123.length : Int) != (wrap64 ((t114.length : Int) + 1))) = false := bne_eq_false_iff_eq.mpr c114;clear c114
      (first|rw [c114b0]|rw [c114b1]|(simp only [i64_w,i32_w];rw [c114b0])|skip)
      replace H := YJ H;obtain ⟨t179,A115,H⟩ := H;try dsimp only at H
      replace H := YF H;rcases H with ⟨rfl,H⟩|⟨rfl,H⟩;rotate_left
      ·exact absurd H (by simp)
      as_aux_lemma =>
       have H' := ZA H;clear H;obtain ⟨Ao117,co117,eo117⟩ := Kd.R_slice HO_15.out;subst eo117
       go_wp2_with (first|((with_reducible refine YG 37 ?_);refine YC (some 297) Tryd.func37 #[.slice Ao117 t119.length co117,.int .i64 t116] (impl_DueCards.calls kj79 _ _ t119 t116 t174 true _ (WR HO_15) (CR HO_15) A110.out) ?_;rintro e w118 ⟨v176,rfl,ho0,hb⟩;refine ⟨_,rfl,?_⟩;replace HO_12 := ZBR HO_12 hb;replace HO_15 := ZBR HO_15 hb;replace HO_17 := ZBR HO_17 hb;replace HO_19 := ZBR HO_19 hb;replace HO_22 := ZBR HO_22 hb;have HO177 := ZA (Kd.R_lower ho0 (SZ HB));replace HB := BS HB hb;obtain ⟨Ao119,co119,eo119⟩ := Kd.R_slice HO177.out;subst eo119)|(go_at_call 42;(with_reducible refine (laws_qSay.calls kj79 _ _ t174 t115 true _ (WR HO177) (CR HO177) A112.out).mono ?_);rintro e w' ⟨rfl,⟨nd,rfl⟩⟩;obtain ⟨Ao120,co120,eo120⟩ := Kd.R_slice HO_17.out;subst eo120)|(go_at_call 41;(with_reducible refine (impl_AreCards.calls kj79 _ _ t119 true _ (WR HO_15) (CR HO_15) A115.out).mono ?_);rintro e w121 ⟨rfl,hb⟩;replace HO_12 := ZBR HO_12 hb;replace HO_15 := ZBR HO_15 hb;replace HO_17 := ZBR HO_17 hb;replace HO_19 := ZBR HO_19 hb;replace HO_22 := ZBR HO_22 hb;replace HO177 := ZBR HO177 hb;replace HB := BS HB hb))
       go_meet
       case rel => exact ⟨_,H',⟨by have := HJ19.out;have := HJ79.out;first|omega|exact Nat.le_refl _⟩,⟨ZK ⟨Kd.R_mono HO_19.out (fun _ hk => trivial)⟩⟩,⟨ZK HO_22⟩,⟨ZQ HB⟩⟩
     case rest =>
      clear HC108;obtain ⟨kq,HA,HJ107,HO_19,HO_22,HB⟩ := hcut;cases kq with
      | zero => exact absurd HA.out (by simp [laws_FnCards.j4])
      | succ kj107 =>
       have H := HA.out;clear HA;simp only [laws_FnCards.j4] at H;have HC122 := ZA H;clear H
       go_upto_if 321 with (fail)
       go_cut [] from 294 to 321 (fun wc => ∃ (kq : Nat),Aside0 (laws_FnCards.j6 kq t127 t139 t140 = some r) ∧ Aside0 (kq <= kj107) ∧ Aside0 (Kd.R k94 94 wc w.heap.size (fun _ => True) (.slice Ao30 t127.length co30) t127) ∧ Aside0 (Below w.heap.size w wc))
       case first =>
        have H := HC122.out;clear HC122;replace H := YF H;rcases H with ⟨rfl,H⟩|⟨rfl,H⟩;rotate_left
        ·as_aux_lemma =>
          have H' := ZA H;clear H;go_wp2;go_meet
          case rel => exact ⟨_,H',⟨by have := HJ19.out;have := HJ79.out;have := HJ107.out;first|omega|exact Nat.le_refl _⟩,⟨ZK HO_19⟩,⟨ZQ HB⟩⟩
        have H' := ZA H;clear H;obtain ⟨Ao124,co124,eo124⟩ := Kd.R_slice HO_22.out;subst eo124;go_wp2
        go_loopg [46,324] kj107 (fun kq v46 v324 w' => ∃ (x46_4 : Int) (x324_4 : Int),v46 = .int .i64 x46_4 ∧ v324 = .int .i64 x324_4 ∧ Aside0 (laws_FnCards.l1 kq t127 t134 t139 t140 x46_4 t134 (t134.length : Int) x324_4 = some r) ∧ Aside0 (kq <= kj107) ∧ Aside0 (Kd.R k94 94 w' w.heap.size (fun _ => True) (.slice Ao30 t127.length co30) t127) ∧ Aside0 (Kd.R (Kd.int .i64) 3 w' w.heap.size (fun _ => True) (.slice Ao124 t134.length co124) t134) ∧ Aside0 (Kd.R (Kd.int .i64) 3 w' w.heap.size (fun _ => True) (.slice Ao124 t134.length co124) t134) ∧ Aside0 (Below w.heap.size w w'))
        case atStart => exact ⟨(0),(0),ZG,ZG,H',⟨Nat.le_refl _⟩,⟨ZK HO_19⟩,⟨ZK HO_22⟩,⟨ZK HO_22⟩,⟨ZQ HB⟩⟩
        case round =>
         clear H';obtain ⟨x46_4,x324_4,rfl,rfl,HA,HK4,HO_19,HO_22,HO_322,HB⟩ := hrel;cases gk with
         | zero => exact absurd HA.out (by simp [laws_FnCards.l1])
         | succ k4 =>
          have H := HA.out;clear HA;simp only [laws_FnCards.l1] at H;replace H := YI H;rcases H with ⟨c125b0,H⟩|⟨c125b0,H⟩;rotate_left
          ·(first|rw [c125b0]|rw [c125b1]|(simp only [i64_w,i32_w];rw [c125b0])|skip)
           replace H := YM H;obtain ⟨c128,H⟩ := H;have c128b0 : (x46_4 == (t127.length : Int)) = true := beq_iff_eq.mpr c128;have c128b1 : (x46_4 != (t127.length : Int)) = false := bne_eq_false_iff_eq.mpr c128;clear c128;replace H := YM H;obtain ⟨c129,H⟩ := H;have c129b0 : ((t134.length : Int) == 6) = true := beq_iff_eq.mpr c129;have c129b1 : ((t134.length : Int) != 6) = false := bne_eq_false_iff_eq.mpr c129;clear c129
           as_aux_lemma =>
            have H' := ZA H;clear H;go_wp2;go_meet
            case rel => exact ⟨_,H',⟨by have := HJ19.out;have := HJ79.out;have := HJ107.out;have := HK4.out;first|omega|exact Nat.le_refl _⟩,⟨ZK HO_19⟩,⟨ZQ HB⟩⟩
          (first|rw [c125b0]|rw [c125b1]|(simp only [i64_w,i32_w];rw [c125b0])|skip)
          replace H := YN H;obtain ⟨c126b0,H⟩ := H;replace H := YN H;obtain ⟨c127b0,H⟩ := H
          as_aux_lemma =>
           have H' := ZA H;clear H;have p180 : 0 <= (x324_4 : Int) := ZD;have q180 : x324_4 < (t134.length : Int) := ZD;obtain ⟨ad180,e180,hx180_0⟩ := Kd.at_int (Kd.R_reads' HO_322.out).2.2 x324_4 p180 q180;cases e180;replace p180 := eq_true p180;replace q180 := eq_true q180;go_wp2
           go_roundg k4
           case measure => have := HJ19.out;have := HJ79.out;have := HJ107.out;have := HK4.out;omega
           case rel => exact ⟨(wrap64 (x46_4 + (rd t134 x324_4))),(wrap64 (x324_4 + 1)),ZG,ZG,H',⟨by have := HJ19.out;have := HJ79.out;have := HJ107.out;have := HK4.out;omega⟩,⟨ZK HO_19⟩,⟨ZK HO_22⟩,⟨ZK HO_322⟩,⟨ZQ HB⟩⟩
       case rest =>
        clear HC122;obtain ⟨kq,HA,HJ121,HO_19,HB⟩ := hcut;cases kq with
        | zero => exact absurd HA.out (by simp [laws_FnCards.j6])
        | succ kj121 =>
         have H := HA.out;clear HA;simp only [laws_FnCards.j6] at H;replace H := YF H;rcases H with ⟨rfl,H⟩|⟨rfl,H⟩;rotate_left
         ·as_aux_lemma =>
           obtain rfl := Option.some.inj H;go_wp2;go_ret;exact ⟨YR,ZQ HB⟩
         replace H := YJ H;obtain ⟨⟨t181,t182⟩,A131,H⟩ := H;try dsimp only at H
         have HC132 := ZA H;clear H
         go_upto_region 47 with (first|((with_reducible refine YG 37 ?_);refine YC (some 345) Tryd.func37 #[.slice Ao30 t127.length co30,.int .i64 t140] (impl_DueCards.calls kj121 _ _ t127 t140 t181 t182 _ (WR HO_19) (CR HO_19) A131.out) ?_;rintro e w133 ⟨v183,rfl,ho0,hb⟩;refine ⟨_,rfl,?_⟩;replace HO_19 := ZBR HO_19 hb;have HO184 := ZA (Kd.R_lower ho0 (SZ HB));replace HB := BS HB hb))
         (try simp only [Act.put,zuA,zuB,zuC])
         go_cut [354] from 333 to 354 (fun v354 wc => ∃ (kq : Nat) (x354_131 : Bool),v354 = .bool x354_131 ∧ Aside0 (laws_FnCards.j7 kq t127 t140 x354_131 = some r) ∧ Aside0 (kq <= kj121) ∧ Aside0 (Kd.R k94 94 wc w.heap.size (fun _ => True) (.slice Ao30 t127.length co30) t127) ∧ Aside0 (Below w.heap.size w wc))
         case first =>
          have H := HC132.out;clear HC132;replace H := YF H;rcases H with ⟨rfl,H⟩|⟨rfl,H⟩;rotate_left
          ·exact absurd H (by simp)
          as_aux_lemma =>
           have H' := ZA H;clear H;obtain ⟨Ao135,co135,eo135⟩ := Kd.R_slice HO184.out;subst eo135;go_wp2;go_meet
           case rel => exact ⟨_,(((t181.length : Int) == 0)),ZG,H',⟨by have := HJ19.out;have := HJ79.out;have := HJ107.out;have := HJ121.out;first|omega|exact Nat.le_refl _⟩,⟨ZK HO_19⟩,⟨ZQ HB⟩⟩
         case rest =>
          clear HC132;obtain ⟨kq,x354_131,rfl,HA,HJ131,HO_19,HB⟩ := hcut;cases kq with
          | zero => exact absurd HA.out (by simp [laws_FnCards.j7])
          | succ kj131 =>
           have H := HA.out;clear HA;simp only [laws_FnCards.j7] at H;by_cases c136 : x354_131 = true
           ·subst c136;rw [if_pos rfl] at H;exact absurd H (by simp)
           replace c136 := Bool.eq_false_iff.mpr c136;subst c136;rw [if_neg (show ¬ (false = true) by decide)] at H;replace H := YI H;rcases H with ⟨c137b0,H⟩|⟨c137b0,H⟩;rotate_left
           ·as_aux_lemma =>
             obtain rfl := Option.some.inj H;go_wp2;go_ret;exact ⟨YR,ZQ HB⟩
           replace H := YJ H;obtain ⟨⟨t185,t186⟩,A138,H⟩ := H;try dsimp only at H
           replace H := YF H;rcases H with ⟨rfl,H⟩|⟨rfl,H⟩;rotate_left
           ·exact absurd H (by simp)
           as_aux_lemma =>
            obtain rfl := Option.some.inj H
            go_wp2_with (first|((with_reducible refine YG 37 ?_);refine YC (some 361) Tryd.func37 #[.slice Ao30 t127.length co30,.int .i64 (wrap64 (t140 - 1))] (impl_DueCards.calls kj131 _ _ t127 (wrap64 (t140 - 1)) t185 true _ (WR HO_19) (CR HO_19) A138.out) ?_;rintro e w140 ⟨v187,rfl,ho0,hb⟩;refine ⟨_,rfl,?_⟩;replace HO_19 := ZBR HO_19 hb;have HO188 := ZA (Kd.R_lower ho0 (SZ HB));replace HB := BS HB hb;obtain ⟨Ao141,co141,eo141⟩ := Kd.R_slice HO188.out;subst eo141))
            go_ret;exact ⟨YR,ZQ HB⟩
def laws_FnCards.Pure : Prop := ∀ (l0 : List Int) (l1 : List Int),l0.length * 1 <= 140737488351232 -> (∀ y,y ∈ l0 -> (Lit.int .u8 y).wf = true) -> l1.length * 1 <= 140737488351232 -> (∀ y,y ∈ l1 -> (Lit.int .u8 y).wf = true) -> ∃ k,laws_FnCards.f k l0 l1 = some true
theorem laws_FnCards.walk (P : laws_FnCards.Pure) (w : World) (A0 : Option Addr) (c0 : Nat) (l0 : List Int) (hr0 : Kd.C (Kd.int .u8) w A0 l0.length l0) (hc0 : l0.length <= c0) (hx0 : l0.length * 1 <= 140737488351232 ∧ ∀ y, y ∈ l0 -> (Lit.int .u8 y).wf = true) (A1 : Option Addr) (c1 : Nat) (l1 : List Int) (hr1 : Kd.C (Kd.int .u8) w A1 l1.length l1) (hc1 : l1.length <= c1) (hx1 : l1.length * 1 <= 140737488351232 ∧ ∀ y, y ∈ l1 -> (Lit.int .u8 y).wf = true) (ht_ : Go.Lib.TabIs Tryd.prog w "internal/strconv.uint64pow10" .u64 Go.Lib.pow10Tab) :
  Calls Tryd.prog 4 #[.slice A0 l0.length c0,.slice A1 l1.length c1] w fun e w' => e = .returned (.bool true) ∧ Below w.heap.size w w' := by
 obtain ⟨k,h⟩ := P l0 l1 hx0.1 hx0.2 hx1.1 hx1.2;refine (laws_FnCards.calls k A0 c0 l0 A1 c1 l1 true w hr0 hc0 hr1 hc1 ht_ h).mono ?_;rintro e w' ⟨rfl,hd⟩;exact ⟨rfl,hd⟩
end Go.Proofs.YtkobnljfoedmnaaDoor.Q
