import Derived.Test.YtkobnljfoedmnaaDoorQBSlicesStableCmpFuncImplCard
import Derived.Test.YtkobnljfoedmnaaDoorGUp
import Derived.Test.YtkobnljfoedmnaaDoorS0M171
import Derived.Test.YtkobnljfoedmnaaDoorGTab
import Derived.Shelf.GgClosure.Gives
import Derived.Test.YtkobnljfoedmnaaDoorGTab
import Derived.Test.YtkobnljfoedmnaaDoorGTab
import Derived.Test.YtkobnljfoedmnaaDoorWGuard
namespace Go.Proofs.YtkobnljfoedmnaaDoor.Q
open Go.RowKit Go.Proofs.YtkobnljfoedmnaaDoorW.PrintWords Go.Proofs.YtkobnljfoedmnaaDoorW.PrintLast Go.Proofs.YtkobnljfoedmnaaDoorW.PrintMore Go.Proofs.YtkobnljfoedmnaaDoorW.GCall
attribute [local go_sem] max2_int min2_int max_two min_two max_three min_three max_four min_four
set_option linter.unusedVariables false
set_option linter.unusedSimpArgs false
attribute [local go_sem high] eqA94
def spec_DrawAreCards.f (k : Nat) (l0 : List Int) : Option ((List (S94))) := (spec_l1Cur_cards.f k l0 0 0).bind fun bt102 => (some bt102.1)
set_option maxHeartbeats 3000000 in
set_option maxRecDepth 100000 in
theorem spec_DrawAreCards.calls (k : Nat) (A0 : Option Addr) (c0 : Nat) (l0 : List Int) (r : List (S94)) (w : World) (hr0 : Kd.C (Kd.int .u8) w A0 l0.length l0) (hc0 : l0.length <= c0) (h : spec_DrawAreCards.f k l0 = some r) :
  Calls Tryd.prog 88 #[.slice A0 l0.length c0] w fun e w' => ∃ v0_ : Value,e = .returned (v0_) ∧ Kd.R k94 94 w' w.heap.size (fun _ => True) v0_ r ∧ Below w.heap.size w w' := by
 have hu72 := Tryd.underlying72;have HR0 := ZA hr0;have HC0 := ZA hc0;clear hr0 hc0;have HB := ZA (Below.refl w.heap.size w);have H : ((spec_l1Cur_cards.f k l0 0 0).bind fun bt102 => (some bt102.1)) = some r := h;clear h;replace H := YJ H;obtain ⟨⟨t102,t105,t106⟩,A2,H⟩ := H;try dsimp only at H
 obtain rfl := Option.some.inj H;go_enter Tryd.func88,Tryd.ntmps88
 go_wp2_with (first|((with_reducible refine gate_dst (N := 6) rfl ?_);refine ZE 6 #[.slice A0 l0.length c0,.int .i64 0,.int .u64 0] 72 ?_;intro gb101 hg w3 hbox hb;have HI101 := ZA ((⟨_,_,hbox,(by rw [hg];exact (SZ HB)),HR0.out⟩ : IsS72 w w3 gb101 l0 0 0));replace HB := BS HB hb;clear hb hbox hg)|((with_reducible refine YG 70 ?_);refine YC (some 8) Tryd.func70 #[.pointer (some ⟨gb101,0,none⟩)] (spec_l1Cur_cards.calls k gb101 l0 0 0 t102 t105 t106 w _ (ZS HI101) (ZJ HB) A2.out) ?_;rintro e w4 ⟨v103,rfl,ho0,hi,hb,hk⟩;refine ⟨_,rfl,?_⟩;have HO104 := ZA (Kd.R_lower ho0 (below_size (ZJ HB)));replace HB := ZA (hb);replace HI101 := ZA (hi)))
 go_ret;exact ⟨_,YR,ZK HO104,ZJ HB⟩
def spec_DrawBoxCounts.f (k : Nat) (l0 : List Int) : Option ((List (S94))) := (spec_DrawAreCards.f k l0).bind fun t101 => (some t101)
set_option maxHeartbeats 3000000 in
set_option maxRecDepth 100000 in
theorem spec_DrawBoxCounts.calls (k : Nat) (A0 : Option Addr) (c0 : Nat) (l0 : List Int) (r : List (S94)) (w : World) (hr0 : Kd.C (Kd.int .u8) w A0 l0.length l0) (hc0 : l0.length <= c0) (h : spec_DrawBoxCounts.f k l0 = some r) :
  Calls Tryd.prog 29 #[.slice A0 l0.length c0] w fun e w' => ∃ v0_ : Value,e = .returned (v0_) ∧ Kd.R k94 94 w' w.heap.size (fun _ => True) v0_ r ∧ Below w.heap.size w w' := by
 have HR0 := ZA hr0;have HC0 := ZA hc0;clear hr0 hc0;have HB := ZA (Below.refl w.heap.size w);have H : ((spec_DrawAreCards.f k l0).bind fun t101 => (some t101)) = some r := h;clear h;replace H := YJ H;obtain ⟨t101,A2,H⟩ := H;try dsimp only at H
 obtain rfl := Option.some.inj H;go_enter Tryd.func29,Tryd.ntmps29
 go_wp2_with (first|((with_reducible refine YG 88 ?_);refine YC (some 4) Tryd.func88 #[.slice A0 l0.length c0] (spec_DrawAreCards.calls k _ _ l0 t101 _ (ZR HR0.out) HC0.out A2.out) ?_;rintro e w3 ⟨v102,rfl,ho0,hb⟩;refine ⟨_,rfl,?_⟩;have HO103 := ZA (Kd.R_lower ho0 (SZ HB));replace HB := BS HB hb))
 go_ret;exact ⟨_,YR,ZK HO103,ZQ HB⟩
def impl_BoxCounts.l0 : Nat -> List Int -> List (S94) -> Int -> Int -> Option (List Int × Bool)
 | 0,_,_,_,_ => none
 | k + 1,x4,x11,x12,x13 => if x13 < x12 then (if 0 <= x13 then (if x13 < (x11.length : Int) then (if 0 <= ((rd_T94 x11 x13).f1) then (if ((rd_T94 x11 x13).f1) < (x4.length : Int) then (impl_BoxCounts.l0 k (x4.set (((rd_T94 x11 x13).f1) : Int).toNat (wrap64 ((rd x4 ((rd_T94 x11 x13).f1)) + 1))) x11 x12 (wrap64 (x13 + 1))) else (none)) else (none)) else (none)) else (none)) else (some (x4,true))
def impl_BoxCounts.f (k : Nat) (l0 : List (S94)) : Option (List Int × Bool) := (impl_AreCards.f k l0).bind fun t101 => (if t101 = true then (if 6 <= 35184372088832 then (impl_BoxCounts.l0 k (List.replicate 6 0) l0 (l0.length : Int) 0) else (none)) else (some (([] : List Int),false)))
set_option maxHeartbeats 3000000 in
set_option maxRecDepth 100000 in
theorem impl_BoxCounts.calls (k : Nat) (A0 : Option Addr) (c0 : Nat) (l0 : List (S94)) (r1 : List Int) (r2 : Bool) (w : World) (hr0 : Kd.C k94 w A0 l0.length l0) (hc0 : l0.length <= c0) (h : impl_BoxCounts.f k l0 = some (r1,r2)) :
  Calls Tryd.prog 30 #[.slice A0 l0.length c0] w fun e w' => ∃ v0_ : Value,e = .returned (.tuple #[v0_,.bool r2]) ∧ Kd.R (Kd.int .i64) 3 w' w.heap.size (fun _ => True) v0_ r1 ∧ Below w.heap.size w w' := by
 have hu94 := Tryd.underlying94;have HR0 := ZA hr0;have HC0 := ZA hc0;clear hr0 hc0;have HB := ZA (Below.refl w.heap.size w);have H := h;clear h;unfold impl_BoxCounts.f at H;replace H := YJ H;obtain ⟨t101,A2,H⟩ := H;try dsimp only at H
 replace H := YF H;rcases H with ⟨rfl,H⟩|⟨rfl,H⟩;rotate_left
 ·simp only [Option.some.injEq,Prod.mk.injEq] at H;obtain ⟨rfl,rfl⟩ := H;go_enter Tryd.func30,Tryd.ntmps30
  go_wp2_with (first|((with_reducible refine YG 41 ?_);refine YC (some 8) Tryd.func41 #[.slice A0 l0.length c0] (impl_AreCards.calls k _ _ l0 false _ (ZR HR0.out) HC0.out A2.out) ?_;rintro e w21 ⟨rfl,hb⟩;refine ⟨_,rfl,?_⟩;replace HB := BS HB hb))
  go_ret2;exact ⟨_,YR,by first|exact Kd.R_nil _ _ _ _ _|exact Kd.N_nil _ _ _ _ _|exact Kd.V_nil _ _ _ _ _|exact Kd.Q_nil _ _ _ _ _|exact Kd.S_nil _ _ _ _ _,ZQ HB⟩
 replace H := YM H;obtain ⟨c4,H⟩ := H;have c4b0 := eq_true c4;have c4b1 := decide_eq_true c4;clear c4;obtain ⟨y102,hy102⟩ : ∃ y_ : List Int,y_ = (List.replicate 6 0) := ⟨_,rfl⟩;replace H : (impl_BoxCounts.l0 k y102 l0 (l0.length : Int) 0) = some (r1,r2) := YH hy102 H;have Ny102 := ZA hy102;clear hy102;have H' := ZA H;clear H;go_enter Tryd.func30,Tryd.ntmps30
 go_wp2_with (first|((with_reducible refine YG 41 ?_);refine YC (some 8) Tryd.func41 #[.slice A0 l0.length c0] (impl_AreCards.calls k _ _ l0 true _ (ZR HR0.out) HC0.out A2.out) ?_;rintro e w5 ⟨rfl,hb⟩;refine ⟨_,rfl,?_⟩;replace HB := BS HB hb)|((with_reducible refine gate_dst (N := 10) rfl ?_);refine Kd.R_make (Kd.int .i64) _ 3 rfl (N := 10) rfl 32 _ _ rfl 6 rfl rfl Tryd.underlying32 (.int .i64 0) 8 info3 rfl (by decide) (by omega) 0 (ok := fun _ => True) (okp := fun _ => True) rfl (fun _ hk => hk) trivial (by omega) (by omega) (Below.refl _ _) (Nat.le_refl _) ?_;intro v103 w6 ho7 hb hg_ hnew_;clear hg_ hnew_;(first|rw [<- Ny102.out] at ho7|(simp only [Int.reduceToNat] at ho7;rw [<- Ny102.out] at ho7));have HO104 := ZA (Kd.R_lower ho7 (SZ HB));replace HB := BS HB hb;clear hb ho7))
 go_loopg [13] k (fun kq v13 w' => ∃ (x4_1 : List Int) (x13_1 : Int),v13 = .int .i64 x13_1 ∧ Aside0 (impl_BoxCounts.l0 kq x4_1 l0 (l0.length : Int) x13_1 = some (r1,r2)) ∧ Aside0 (kq <= k) ∧ Aside0 (Kd.R (Kd.int .i64) 3 w' w.heap.size (fun _ => True) v103 x4_1) ∧ Aside0 (Below w.heap.size w w'))
 case atStart => exact ⟨(y102),(0),ZG,H',⟨Nat.le_refl _⟩,⟨ZK HO104⟩,⟨ZQ HB⟩⟩
 case round =>
  clear H';obtain ⟨x4_1,x13_1,rfl,HA,HK1,HO_4,HB⟩ := hrel;cases gk with
  | zero => exact absurd HA.out (by simp [impl_BoxCounts.l0])
  | succ k1 =>
   have H := HA.out;clear HA;simp only [impl_BoxCounts.l0] at H;replace H := YI H;rcases H with ⟨c8b0,H⟩|⟨c8b0,H⟩;rotate_left
   ·simp only [Option.some.injEq,Prod.mk.injEq] at H;obtain ⟨rfl,rfl⟩ := H;go_wp2;go_ret2;exact ⟨_,YR,ZK HO_4,ZQ HB⟩
   replace H := YN H;obtain ⟨c9b0,H⟩ := H;replace H := YN H;obtain ⟨c10b0,H⟩ := H;replace H := YN H;obtain ⟨c11b0,H⟩ := H;replace H := YN H;obtain ⟨c12b0,H⟩ := H;obtain ⟨y108,hy108⟩ : ∃ y_ : List Int,y_ = (x4_1.set (((rd_T94 l0 x13_1).f1) : Int).toNat (wrap64 ((rd x4_1 ((rd_T94 l0 x13_1).f1)) + 1))) := ⟨_,rfl⟩;replace H : (impl_BoxCounts.l0 k1 y108 l0 (l0.length : Int) (wrap64 (x13_1 + 1))) = some (r1,r2) := YH hy108 H;have Ny108 := ZA hy108;clear hy108;have H' := ZA H;clear H;have p105 : 0 <= (x13_1 : Int) := ZD;have q105 : x13_1 < (l0.length : Int) := ZD;obtain ⟨ad105,e105,hx105_0,hx105_1,hx105_2⟩ := at_T94 HR0.out x13_1 p105 q105;cases e105;replace hx105_0 := ZX HB hx105_0;replace hx105_1 := ZX HB hx105_1;replace hx105_2 := ZX HB hx105_2;replace p105 := eq_true p105;replace q105 := eq_true q105
   go_wp2_with (first|((with_reducible refine gate_dst (N := 6) rfl ?_);refine ZE 6 #[.string (⟨#[]⟩ : ByteArray),.int .i64 0,.int .i64 0] 94 ?_;intro gb106 hg w14 hbox hb;replace HO_4 := ZBR HO_4 hb;have BK106 := ZA (hbox);have GW106 := YQ hg HB;have GE106 := YQ hg HB;replace HB := BS HB hb;clear hb hbox hg;have hcz15_0 : w14.cell? ⟨gb106,0,none⟩ = some (.string (⟨#[]⟩ : ByteArray)) := ZC BK106 0 rfl;have hcz15_1 : w14.cell? ⟨gb106,1,none⟩ = some (.int .i64 0) := ZC BK106 1 rfl;have hcz15_2 : w14.cell? ⟨gb106,2,none⟩ = some (.int .i64 0) := ZC BK106 2 rfl;have hfz15_0 := blk_frozen BK106.out 0;have hfz15_1 := blk_frozen BK106.out 1;have hfz15_2 := blk_frozen BK106.out 2)|((with_reducible refine gate_store (t := 94) (p := 6) rfl ?_);refine store_event (t := 94) (p := 6) (v := ?vo_w16) (w1 := (((w14.setCell ⟨gb106,0,none⟩ (.string ((rd_T94 l0 x13_1).f0))).setCell ⟨gb106,1,none⟩ (.int .i64 ((rd_T94 l0 x13_1).f1))).setCell ⟨gb106,2,none⟩ (.int .i64 ((rd_T94 l0 x13_1).f2)))) ?hg ?ho ?hn ?hr ?_;(case ho => rfl);(case hg => rfl);(case hn => rfl);(case hr => first|(go_simp;done)|(go_simp;rfl));intro w16 hw;replace HO_4 : Aside0 (Kd.R (Kd.int .i64) 3 w16 w.heap.size (fun _ => True) v103 x4_1) := ⟨(by rw [hw];exact (ZK ⟨Kd.R_mono (Kd.R_far (p := ⟨gb106,2,none⟩) (Kd.R_far (p := ⟨gb106,1,none⟩) (Kd.R_far (p := ⟨gb106,0,none⟩) (Kd.R_types HO_4.out BK106.out (by decide)) (fun _ hk => hk.2) (.string ((rd_T94 l0 x13_1).f0))) (fun _ hk => hk.2) (.int .i64 ((rd_T94 l0 x13_1).f1))) (fun _ hk => hk.2) (.int .i64 ((rd_T94 l0 x13_1).f2))) (fun _ hk => trivial)⟩))⟩;replace BK106 : Aside0 (w16.heap[gb106]? = some (.cells #[.string ((rd_T94 l0 x13_1).f0),.int .i64 ((rd_T94 l0 x13_1).f1),.int .i64 ((rd_T94 l0 x13_1).f2)] 94 (0,0))) := ⟨(by rw [hw];exact (by refine ZY ?_;refine blk_put (cs := #[.string ((rd_T94 l0 x13_1).f0),.int .i64 ((rd_T94 l0 x13_1).f1),.int .i64 0]) ?_ 2 _ rfl;refine ZY ?_;refine blk_put (cs := #[.string ((rd_T94 l0 x13_1).f0),.int .i64 0,.int .i64 0]) ?_ 1 _ rfl;refine ZY ?_;refine blk_put (cs := #[.string (⟨#[]⟩ : ByteArray),.int .i64 0,.int .i64 0]) ?_ 0 _ rfl;refine ZY ?_;exact BK106.out))⟩;replace HB : Aside0 (Below w.heap.size w w16) := ⟨(by rw [hw];exact (ZQ HB))⟩;clear hw;have hcz17_0 : w16.cell? ⟨gb106,0,none⟩ = some (.string ((rd_T94 l0 x13_1).f0)) := ZC BK106 0 rfl;have hcz17_1 : w16.cell? ⟨gb106,1,none⟩ = some (.int .i64 ((rd_T94 l0 x13_1).f1)) := ZC BK106 1 rfl;have hcz17_2 : w16.cell? ⟨gb106,2,none⟩ = some (.int .i64 ((rd_T94 l0 x13_1).f2)) := ZC BK106 2 rfl;have hfz17_0 := blk_frozen BK106.out 0;have hfz17_1 := blk_frozen BK106.out 1;have hfz17_2 := blk_frozen BK106.out 2;obtain ⟨Ao18,co18,eo18⟩ := Kd.R_slice HO_4.out;subst eo18;have p107 : 0 <= (((rd_T94 l0 x13_1).f1) : Int) := ZD;have q107 : ((rd_T94 l0 x13_1).f1) < (x4_1.length : Int) := ZD;obtain ⟨ad107,e107,hx107_0⟩ := Kd.at_int (Kd.R_reads' HO_4.out).2.2 ((rd_T94 l0 x13_1).f1) p107 q107;cases e107;replace p107 := eq_true p107;replace q107 := eq_true q107;have p13 : 0 <= (((rd_T94 l0 x13_1).f1) : Int) := ZD;have q13 : (((rd_T94 l0 x13_1).f1) : Int) < ((x4_1.length : Int) : Int) := ZD;obtain ⟨go13,co13,eo13,gb13,gl13,cl13,HG13⟩ := Kd.R_form HO_4.out (by omega);(first|cases eo13|(injection eo13 with ea_ en_ ec_;(first|subst ea_|(injection ea_ with ea_;subst ea_));subst ec_;clear en_));have GB13 := ZA gb13;have GG13 := ZA HG13;clear gb13 gl13 HG13;(first|simp only [add_plain] at hx107_0|skip);obtain ⟨hx13_0,hf13_0⟩ := Kd.R_celln 0 HO_4.out (((rd_T94 l0 x13_1).f1) : Int) p13 q13;replace p13 := eq_true p13;replace q13 := eq_true q13;obtain ⟨hy19_,hz19_⟩ := Kd.R_celln 0 HO_4.out (((rd_T94 l0 x13_1).f1) : Int) ZD ZD;have HP19 := Kd.R_putg HO_4.out (((rd_T94 l0 x13_1).f1) : Int) (wrap64 ((rd x4_1 ((rd_T94 l0 x13_1).f1)) + 1)))|((with_reducible refine gate_store (t := 3) (p := 23) rfl ?_);refine store_event (t := 3) (p := 23) (v := ?vo_w20) (w1 := (w16.setCell ⟨go13,(((rd_T94 l0 x13_1).f1) : Int).toNat,none⟩ (.int .i64 (wrap64 ((rd x4_1 ((rd_T94 l0 x13_1).f1)) + 1))))) ?hg ?ho ?hn ?hr ?_;(case ho => rfl);(case hg => rfl);(case hn => rfl);(case hr => first|(go_simp;done)|(go_simp;rfl));intro w20 hw;have hg : w16.grownBy w20 (some go13) := (by rw [hw];exact HP19.2);have hp_ : Kd.R (Kd.int .i64) 3 w20 w.heap.size (fun _ => True) (.slice (some ⟨go13,0,none⟩) x4_1.length co18) y108 := (by rw [hw,Ny108.out];exact HP19.1);clear HP19;replace BK106 := ZA (blk_grown (g := gb106) (o := .cells #[.string ((rd_T94 l0 x13_1).f0),.int .i64 ((rd_T94 l0 x13_1).f1),.int .i64 ((rd_T94 l0 x13_1).f2)] 94 (0,0)) (ZH BK106) hg (Kd.R_ne HO_4.out BK106.out (by decide)));replace HO_4 := ZA (hp_);replace HB := ZA ((by rw [hw];exact below_set (HB.out) GB13.out : Below w.heap.size w w20));clear hg hw hp_))
   go_roundg k1
   case measure => have := HK1.out;omega
   case rel => exact ⟨(y108),(wrap64 (x13_1 + 1)),ZG,H',⟨by have := HK1.out;omega⟩,⟨ZK HO_4⟩,⟨ZQ HB⟩⟩
def spec_BoxCounts.l0 : Nat -> List Int -> List (S94) -> Int -> Int -> Option (List Int × Bool)
 | 0,_,_,_,_ => none
 | k + 1,x4,x11,x12,x13 => if x13 < x12 then (if 0 <= x13 then (if x13 < (x11.length : Int) then (if 0 <= ((rd_T94 x11 x13).f1) then (if ((rd_T94 x11 x13).f1) < (x4.length : Int) then (spec_BoxCounts.l0 k (x4.set (((rd_T94 x11 x13).f1) : Int).toNat (wrap64 ((rd x4 ((rd_T94 x11 x13).f1)) + 1))) x11 x12 (wrap64 (x13 + 1))) else (none)) else (none)) else (none)) else (none)) else (some (x4,true))
def spec_BoxCounts.f (k : Nat) (l0 : List (S94)) : Option (List Int × Bool) := (spec_rpGood.f k l0).bind fun t101 => (if t101 = true then (if 6 <= 35184372088832 then (spec_BoxCounts.l0 k (List.replicate 6 0) l0 (l0.length : Int) 0) else (none)) else (some (([] : List Int),false)))
set_option maxHeartbeats 3000000 in
set_option maxRecDepth 100000 in
theorem spec_BoxCounts.calls (k : Nat) (A0 : Option Addr) (c0 : Nat) (l0 : List (S94)) (r1 : List Int) (r2 : Bool) (w : World) (hr0 : Kd.C k94 w A0 l0.length l0) (hc0 : l0.length <= c0) (h : spec_BoxCounts.f k l0 = some (r1,r2)) :
  Calls Tryd.prog 31 #[.slice A0 l0.length c0] w fun e w' => ∃ v0_ : Value,e = .returned (.tuple #[v0_,.bool r2]) ∧ Kd.R (Kd.int .i64) 3 w' w.heap.size (fun _ => True) v0_ r1 ∧ Below w.heap.size w w' := by
 have hu94 := Tryd.underlying94;have HR0 := ZA hr0;have HC0 := ZA hc0;clear hr0 hc0;have HB := ZA (Below.refl w.heap.size w);have H := h;clear h;unfold spec_BoxCounts.f at H;replace H := YJ H;obtain ⟨t101,A2,H⟩ := H;try dsimp only at H
 replace H := YF H;rcases H with ⟨rfl,H⟩|⟨rfl,H⟩;rotate_left
 ·simp only [Option.some.injEq,Prod.mk.injEq] at H;obtain ⟨rfl,rfl⟩ := H;go_enter Tryd.func31,Tryd.ntmps31
  go_wp2_with (first|((with_reducible refine YG 79 ?_);refine YC (some 8) Tryd.func79 #[.slice A0 l0.length c0] (spec_rpGood.calls k _ _ l0 false _ (ZR HR0.out) HC0.out A2.out) ?_;rintro e w21 ⟨rfl,hb⟩;refine ⟨_,rfl,?_⟩;replace HB := BS HB hb))
  go_ret2;exact ⟨_,YR,by first|exact Kd.R_nil _ _ _ _ _|exact Kd.N_nil _ _ _ _ _|exact Kd.V_nil _ _ _ _ _|exact Kd.Q_nil _ _ _ _ _|exact Kd.S_nil _ _ _ _ _,ZQ HB⟩
 replace H := YM H;obtain ⟨c4,H⟩ := H;have c4b0 := eq_true c4;have c4b1 := decide_eq_true c4;clear c4;obtain ⟨y102,hy102⟩ : ∃ y_ : List Int,y_ = (List.replicate 6 0) := ⟨_,rfl⟩;replace H : (spec_BoxCounts.l0 k y102 l0 (l0.length : Int) 0) = some (r1,r2) := YH hy102 H;have Ny102 := ZA hy102;clear hy102;have H' := ZA H;clear H;go_enter Tryd.func31,Tryd.ntmps31
 go_wp2_with (first|((with_reducible refine YG 79 ?_);refine YC (some 8) Tryd.func79 #[.slice A0 l0.length c0] (spec_rpGood.calls k _ _ l0 true _ (ZR HR0.out) HC0.out A2.out) ?_;rintro e w5 ⟨rfl,hb⟩;refine ⟨_,rfl,?_⟩;replace HB := BS HB hb)|((with_reducible refine gate_dst (N := 10) rfl ?_);refine Kd.R_make (Kd.int .i64) _ 3 rfl (N := 10) rfl 32 _ _ rfl 6 rfl rfl Tryd.underlying32 (.int .i64 0) 8 info3 rfl (by decide) (by omega) 0 (ok := fun _ => True) (okp := fun _ => True) rfl (fun _ hk => hk) trivial (by omega) (by omega) (Below.refl _ _) (Nat.le_refl _) ?_;intro v103 w6 ho7 hb hg_ hnew_;clear hg_ hnew_;(first|rw [<- Ny102.out] at ho7|(simp only [Int.reduceToNat] at ho7;rw [<- Ny102.out] at ho7));have HO104 := ZA (Kd.R_lower ho7 (SZ HB));replace HB := BS HB hb;clear hb ho7))
 go_loopg [13] k (fun kq v13 w' => ∃ (x4_1 : List Int) (x13_1 : Int),v13 = .int .i64 x13_1 ∧ Aside0 (spec_BoxCounts.l0 kq x4_1 l0 (l0.length : Int) x13_1 = some (r1,r2)) ∧ Aside0 (kq <= k) ∧ Aside0 (Kd.R (Kd.int .i64) 3 w' w.heap.size (fun _ => True) v103 x4_1) ∧ Aside0 (Below w.heap.size w w'))
 case atStart => exact ⟨(y102),(0),ZG,H',⟨Nat.le_refl _⟩,⟨ZK HO104⟩,⟨ZQ HB⟩⟩
 case round =>
  clear H';obtain ⟨x4_1,x13_1,rfl,HA,HK1,HO_4,HB⟩ := hrel;cases gk with
  | zero => exact absurd HA.out (by simp [spec_BoxCounts.l0])
  | succ k1 =>
   have H := HA.out;clear HA;simp only [spec_BoxCounts.l0] at H;replace H := YI H;rcases H with ⟨c8b0,H⟩|⟨c8b0,H⟩;rotate_left
   ·simp only [Option.some.injEq,Prod.mk.injEq] at H;obtain ⟨rfl,rfl⟩ := H;go_wp2;go_ret2;exact ⟨_,YR,ZK HO_4,ZQ HB⟩
   replace H := YN H;obtain ⟨c9b0,H⟩ := H;replace H := YN H;obtain ⟨c10b0,H⟩ := H;replace H := YN H;obtain ⟨c11b0,H⟩ := H;replace H := YN H;obtain ⟨c12b0,H⟩ := H;obtain ⟨y108,hy108⟩ : ∃ y_ : List Int,y_ = (x4_1.set (((rd_T94 l0 x13_1).f1) : Int).toNat (wrap64 ((rd x4_1 ((rd_T94 l0 x13_1).f1)) + 1))) := ⟨_,rfl⟩;replace H : (spec_BoxCounts.l0 k1 y108 l0 (l0.length : Int) (wrap64 (x13_1 + 1))) = some (r1,r2) := YH hy108 H;have Ny108 := ZA hy108;clear hy108;have H' := ZA H;clear H;have p105 : 0 <= (x13_1 : Int) := ZD;have q105 : x13_1 < (l0.length : Int) := ZD;obtain ⟨ad105,e105,hx105_0,hx105_1,hx105_2⟩ := at_T94 HR0.out x13_1 p105 q105;cases e105;replace hx105_0 := ZX HB hx105_0;replace hx105_1 := ZX HB hx105_1;replace hx105_2 := ZX HB hx105_2;replace p105 := eq_true p105;replace q105 := eq_true q105
   go_wp2_with (first|((with_reducible refine gate_dst (N := 6) rfl ?_);refine ZE 6 #[.string (⟨#[]⟩ : ByteArray),.int .i64 0,.int .i64 0] 94 ?_;intro gb106 hg w14 hbox hb;replace HO_4 := ZBR HO_4 hb;have BK106 := ZA (hbox);have GW106 := YQ hg HB;have GE106 := YQ hg HB;replace HB := BS HB hb;clear hb hbox hg;have hcz15_0 : w14.cell? ⟨gb106,0,none⟩ = some (.string (⟨#[]⟩ : ByteArray)) := ZC BK106 0 rfl;have hcz15_1 : w14.cell? ⟨gb106,1,none⟩ = some (.int .i64 0) := ZC BK106 1 rfl;have hcz15_2 : w14.cell? ⟨gb106,2,none⟩ = some (.int .i64 0) := ZC BK106 2 rfl;have hfz15_0 := blk_frozen BK106.out 0;have hfz15_1 := blk_frozen BK106.out 1;have hfz15_2 := blk_frozen BK106.out 2)|((with_reducible refine gate_store (t := 94) (p := 6) rfl ?_);refine store_event (t := 94) (p := 6) (v := ?vo_w16) (w1 := (((w14.setCell ⟨gb106,0,none⟩ (.string ((rd_T94 l0 x13_1).f0))).setCell ⟨gb106,1,none⟩ (.int .i64 ((rd_T94 l0 x13_1).f1))).setCell ⟨gb106,2,none⟩ (.int .i64 ((rd_T94 l0 x13_1).f2)))) ?hg ?ho ?hn ?hr ?_;(case ho => rfl);(case hg => rfl);(case hn => rfl);(case hr => first|(go_simp;done)|(go_simp;rfl));intro w16 hw;replace HO_4 : Aside0 (Kd.R (Kd.int .i64) 3 w16 w.heap.size (fun _ => True) v103 x4_1) := ⟨(by rw [hw];exact (ZK ⟨Kd.R_mono (Kd.R_far (p := ⟨gb106,2,none⟩) (Kd.R_far (p := ⟨gb106,1,none⟩) (Kd.R_far (p := ⟨gb106,0,none⟩) (Kd.R_types HO_4.out BK106.out (by decide)) (fun _ hk => hk.2) (.string ((rd_T94 l0 x13_1).f0))) (fun _ hk => hk.2) (.int .i64 ((rd_T94 l0 x13_1).f1))) (fun _ hk => hk.2) (.int .i64 ((rd_T94 l0 x13_1).f2))) (fun _ hk => trivial)⟩))⟩;replace BK106 : Aside0 (w16.heap[gb106]? = some (.cells #[.string ((rd_T94 l0 x13_1).f0),.int .i64 ((rd_T94 l0 x13_1).f1),.int .i64 ((rd_T94 l0 x13_1).f2)] 94 (0,0))) := ⟨(by rw [hw];exact (by refine ZY ?_;refine blk_put (cs := #[.string ((rd_T94 l0 x13_1).f0),.int .i64 ((rd_T94 l0 x13_1).f1),.int .i64 0]) ?_ 2 _ rfl;refine ZY ?_;refine blk_put (cs := #[.string ((rd_T94 l0 x13_1).f0),.int .i64 0,.int .i64 0]) ?_ 1 _ rfl;refine ZY ?_;refine blk_put (cs := #[.string (⟨#[]⟩ : ByteArray),.int .i64 0,.int .i64 0]) ?_ 0 _ rfl;refine ZY ?_;exact BK106.out))⟩;replace HB : Aside0 (Below w.heap.size w w16) := ⟨(by rw [hw];exact (ZQ HB))⟩;clear hw;have hcz17_0 : w16.cell? ⟨gb106,0,none⟩ = some (.string ((rd_T94 l0 x13_1).f0)) := ZC BK106 0 rfl;have hcz17_1 : w16.cell? ⟨gb106,1,none⟩ = some (.int .i64 ((rd_T94 l0 x13_1).f1)) := ZC BK106 1 rfl;have hcz17_2 : w16.cell? ⟨gb106,2,none⟩ = some (.int .i64 ((rd_T94 l0 x13_1).f2)) := ZC BK106 2 rfl;have hfz17_0 := blk_frozen BK106.out 0;have hfz17_1 := blk_frozen BK106.out 1;have hfz17_2 := blk_frozen BK106.out 2;obtain ⟨Ao18,co18,eo18⟩ := Kd.R_slice HO_4.out;subst eo18;have p107 : 0 <= (((rd_T94 l0 x13_1).f1) : Int) := ZD;have q107 : ((rd_T94 l0 x13_1).f1) < (x4_1.length : Int) := ZD;obtain ⟨ad107,e107,hx107_0⟩ := Kd.at_int (Kd.R_reads' HO_4.out).2.2 ((rd_T94 l0 x13_1).f1) p107 q107;cases e107;replace p107 := eq_true p107;replace q107 := eq_true q107;have p13 : 0 <= (((rd_T94 l0 x13_1).f1) : Int) := ZD;have q13 : (((rd_T94 l0 x13_1).f1) : Int) < ((x4_1.length : Int) : Int) := ZD;obtain ⟨go13,co13,eo13,gb13,gl13,cl13,HG13⟩ := Kd.R_form HO_4.out (by omega);(first|cases eo13|(injection eo13 with ea_ en_ ec_;(first|subst ea_|(injection ea_ with ea_;subst ea_));subst ec_;clear en_));have GB13 := ZA gb13;have GG13 := ZA HG13;clear gb13 gl13 HG13;(first|simp only [add_plain] at hx107_0|skip);obtain ⟨hx13_0,hf13_0⟩ := Kd.R_celln 0 HO_4.out (((rd_T94 l0 x13_1).f1) : Int) p13 q13;replace p13 := eq_true p13;replace q13 := eq_true q13;obtain ⟨hy19_,hz19_⟩ := Kd.R_celln 0 HO_4.out (((rd_T94 l0 x13_1).f1) : Int) ZD ZD;have HP19 := Kd.R_putg HO_4.out (((rd_T94 l0 x13_1).f1) : Int) (wrap64 ((rd x4_1 ((rd_T94 l0 x13_1).f1)) + 1)))|((with_reducible refine gate_store (t := 3) (p := 23) rfl ?_);refine store_event (t := 3) (p := 23) (v := ?vo_w20) (w1 := (w16.setCell ⟨go13,(((rd_T94 l0 x13_1).f1) : Int).toNat,none⟩ (.int .i64 (wrap64 ((rd x4_1 ((rd_T94 l0 x13_1).f1)) + 1))))) ?hg ?ho ?hn ?hr ?_;(case ho => rfl);(case hg => rfl);(case hn => rfl);(case hr => first|(go_simp;done)|(go_simp;rfl));intro w20 hw;have hg : w16.grownBy w20 (some go13) := (by rw [hw];exact HP19.2);have hp_ : Kd.R (Kd.int .i64) 3 w20 w.heap.size (fun _ => True) (.slice (some ⟨go13,0,none⟩) x4_1.length co18) y108 := (by rw [hw,Ny108.out];exact HP19.1);clear HP19;replace BK106 := ZA (blk_grown (g := gb106) (o := .cells #[.string ((rd_T94 l0 x13_1).f0),.int .i64 ((rd_T94 l0 x13_1).f1),.int .i64 ((rd_T94 l0 x13_1).f2)] 94 (0,0)) (ZH BK106) hg (Kd.R_ne HO_4.out BK106.out (by decide)));replace HO_4 := ZA (hp_);replace HB := ZA ((by rw [hw];exact below_set (HB.out) GB13.out : Below w.heap.size w w20));clear hg hw hp_))
   go_roundg k1
   case measure => have := HK1.out;omega
   case rel => exact ⟨(y108),(wrap64 (x13_1 + 1)),ZG,H',⟨by have := HK1.out;omega⟩,⟨ZK HO_4⟩,⟨ZQ HB⟩⟩
mutual
def impl_NextDay.j0 : Nat -> List (S94) -> Bool -> Option (Int × Bool)
 | 0,_,_ => none
 | k + 1,x0,x14 => if x14 = true then (some (0,false)) else (if 0 < (x0.length : Int) then (impl_NextDay.l0 k ((rd_T94 x0 0).f2) x0 (x0.length : Int) 0) else (none))
def impl_NextDay.l0 : Nat -> Int -> List (S94) -> Int -> Int -> Option (Int × Bool)
 | 0,_,_,_,_ => none
 | k + 1,x4,x19,x20,x21 => if x21 < x20 then (if 0 <= x21 then (if x21 < (x19.length : Int) then (impl_NextDay.l0 k (mn x4 ((rd_T94 x19 x21).f2)) x19 x20 (wrap64 (x21 + 1))) else (none)) else (none)) else (some (x4,true))
end
def impl_NextDay.f (k : Nat) (l0 : List (S94)) : Option (Int × Bool) := (impl_AreCards.f k l0).bind fun t101 => (if t101 = true then (impl_NextDay.j0 k l0 ((l0.length : Int) == 0)) else (impl_NextDay.j0 k l0 true))
set_option maxHeartbeats 3000000 in
set_option maxRecDepth 100000 in
theorem impl_NextDay.calls (k : Nat) (A0 : Option Addr) (c0 : Nat) (l0 : List (S94)) (r1 : Int) (r2 : Bool) (w : World) (hr0 : Kd.C k94 w A0 l0.length l0) (hc0 : l0.length <= c0) (h : impl_NextDay.f k l0 = some (r1,r2)) :
  Calls Tryd.prog 32 #[.slice A0 l0.length c0] w fun e w' => e = .returned (.tuple #[.int .i64 r1,.bool r2]) ∧ Below w.heap.size w w' := by
 have hu94 := Tryd.underlying94;have HR0 := ZA hr0;have HC0 := ZA hc0;clear hr0 hc0;have HB := ZA (Below.refl w.heap.size w);have H := h;clear h;unfold impl_NextDay.f at H;have HC2 := ZA H;clear H;go_enter Tryd.func32,Tryd.ntmps32
 go_upto_region 1 with (fail)
 go_cut [14] (fun v14 wc => ∃ (kq : Nat) (x14_1 : Bool),v14 = .bool x14_1 ∧ Aside0 (impl_NextDay.j0 kq l0 x14_1 = some (r1,r2)) ∧ Aside0 (kq <= k) ∧ Aside0 (Below w.heap.size w wc))
 case first =>
  have H := HC2.out;clear HC2;replace H := YJ H;obtain ⟨t101,A3,H⟩ := H;try dsimp only at H
  by_cases c4 : t101 = true
  ·subst c4;rw [if_pos rfl] at H;have H' := ZA H;clear H
   go_wp2_with (first|((with_reducible refine YG 41 ?_);refine YC (some 8) Tryd.func41 #[.slice A0 l0.length c0] (impl_AreCards.calls k _ _ l0 true _ (ZR (Kd.C_below HR0.out HB.out)) HC0.out A3.out) ?_;rintro e w5 ⟨rfl,hb⟩;refine ⟨_,rfl,?_⟩;replace HB := BS HB hb))
   go_meet
   case rel => exact ⟨_,(((l0.length : Int) == 0)),ZG,H',⟨YO⟩,⟨ZQ HB⟩⟩
  replace c4 := Bool.eq_false_iff.mpr c4;subst c4;rw [if_neg (show ¬ (false = true) by decide)] at H;have H' := ZA H;clear H
  go_wp2_with (first|((with_reducible refine YG 41 ?_);refine YC (some 8) Tryd.func41 #[.slice A0 l0.length c0] (impl_AreCards.calls k _ _ l0 false _ (ZR (Kd.C_below HR0.out HB.out)) HC0.out A3.out) ?_;rintro e w6 ⟨rfl,hb⟩;refine ⟨_,rfl,?_⟩;replace HB := BS HB hb))
  go_meet
  case rel => exact ⟨_,(true),ZG,H',⟨YO⟩,⟨ZQ HB⟩⟩
 case rest =>
  clear HC2;obtain ⟨kq,x14_1,rfl,HA,HJ1,HB⟩ := hcut;cases kq with
  | zero => exact absurd HA.out (by simp [impl_NextDay.j0])
  | succ kj1 =>
   have H := HA.out;clear HA;simp only [impl_NextDay.j0] at H;by_cases c7 : x14_1 = true
   ·subst c7;rw [if_pos rfl] at H;simp only [Option.some.injEq,Prod.mk.injEq] at H;obtain ⟨rfl,rfl⟩ := H;go_wp2;go_ret2;exact ⟨YR,ZQ HB⟩
   replace c7 := Bool.eq_false_iff.mpr c7;subst c7;rw [if_neg (show ¬ (false = true) by decide)] at H;replace H := YM H;obtain ⟨c8,H⟩ := H;have c8b0 := decide_eq_true c8;have c8b1 : decide (0 < l0.length) = true := decide_eq_true (by omega);clear c8;have H' := ZA H;clear H;have p102 : 0 <= (0 : Int) := (by omega);have q102 : 0 < (l0.length : Int) := ZD;obtain ⟨ad102,e102,hx102_0,hx102_1,hx102_2⟩ := at_T94 HR0.out 0 p102 q102;cases e102;have qi102 : (0 < l0.length) = True := eq_true (by omega)
   (try rw [show ((0 : Int)).toNat = 0 from rfl] at hx102_0)
   (try rw [show 0 * 3 = 0 from rfl] at hx102_0)
   (try rw [Addr.add_zero'] at hx102_0)
   (try rw [show ((0 : Int)).toNat = 0 from rfl] at hx102_1)
   (try rw [show 0 * 3 = 0 from rfl] at hx102_1)
   (try rw [Addr.add_zero'] at hx102_1)
   (try rw [show ((0 : Int)).toNat = 0 from rfl] at hx102_2)
   (try rw [show 0 * 3 = 0 from rfl] at hx102_2)
   (try rw [Addr.add_zero'] at hx102_2)
   replace hx102_0 := ZX HB hx102_0;replace hx102_1 := ZX HB hx102_1;replace hx102_2 := ZX HB hx102_2;replace p102 := eq_true p102;replace q102 := eq_true q102;go_wp2
   go_loopg [4,21] kj1 (fun kq v4 v21 w' => ∃ (x4_2 : Int) (x21_2 : Int),v4 = .int .i64 x4_2 ∧ v21 = .int .i64 x21_2 ∧ Aside0 (impl_NextDay.l0 kq x4_2 l0 (l0.length : Int) x21_2 = some (r1,r2)) ∧ Aside0 (kq <= kj1) ∧ Aside0 (Below w.heap.size w w'))
   case atStart => exact ⟨((rd_T94 l0 0).f2),(0),ZG,ZG,H',⟨Nat.le_refl _⟩,⟨ZQ HB⟩⟩
   case round =>
    clear H';obtain ⟨x4_2,x21_2,rfl,rfl,HA,HK2,HB⟩ := hrel;cases gk with
    | zero => exact absurd HA.out (by simp [impl_NextDay.l0])
    | succ k2 =>
     have H := HA.out;clear HA;simp only [impl_NextDay.l0] at H;replace H := YI H;rcases H with ⟨c9b0,H⟩|⟨c9b0,H⟩;rotate_left
     ·simp only [Option.some.injEq,Prod.mk.injEq] at H;obtain ⟨rfl,rfl⟩ := H;go_wp2;go_ret2;exact ⟨YR,ZQ HB⟩
     replace H := YN H;obtain ⟨c10b0,H⟩ := H;replace H := YN H;obtain ⟨c11b0,H⟩ := H;obtain ⟨ji12,hji12⟩ : ∃ j_ : Int,(mn x4_2 ((rd_T94 l0 x21_2).f2)) = j_ := ⟨_,rfl⟩;replace H : (impl_NextDay.l0 k2 ji12 l0 (l0.length : Int) (wrap64 (x21_2 + 1))) = some (r1,r2) := by first|(rw [hji12] at H;exact H)|(simp only [hji12] at H ⊢;exact H)
     have hji12_ : (if ((rd_T94 l0 x21_2).f2) < x4_2 then ((rd_T94 l0 x21_2).f2) else x4_2) = ji12 := hji12;have H' := ZA H;clear H;have p103 : 0 <= (x21_2 : Int) := ZD;have q103 : x21_2 < (l0.length : Int) := ZD;obtain ⟨ad103,e103,hx103_0,hx103_1,hx103_2⟩ := at_T94 HR0.out x21_2 p103 q103;obtain rfl : ad102 = ad103 := (by injection e103);replace hx103_0 := ZX HB hx103_0;replace hx103_1 := ZX HB hx103_1;replace hx103_2 := ZX HB hx103_2;replace p103 := eq_true p103;replace q103 := eq_true q103
     go_wp2_with (first|((with_reducible refine gate_dst (N := 6) rfl ?_);(try (refine gate_guard (by rfl) ?_;dsimp only));refine ZE 6 #[.string (⟨#[]⟩ : ByteArray),.int .i64 0,.int .i64 0] 94 ?_;intro gb104 hg w13 hbox hb;have BK104 := ZA (hbox);have GW104 := YQ hg HB;have GE104 := YQ hg HB;replace HB := BS HB hb;clear hb hbox hg;have hcz14_0 : w13.cell? ⟨gb104,0,none⟩ = some (.string (⟨#[]⟩ : ByteArray)) := ZC BK104 0 rfl;have hcz14_1 : w13.cell? ⟨gb104,1,none⟩ = some (.int .i64 0) := ZC BK104 1 rfl;have hcz14_2 : w13.cell? ⟨gb104,2,none⟩ = some (.int .i64 0) := ZC BK104 2 rfl;have hfz14_0 := blk_frozen BK104.out 0;have hfz14_1 := blk_frozen BK104.out 1;have hfz14_2 := blk_frozen BK104.out 2))
     go_roundg k2
     case measure => have := HJ1.out;have := HK2.out;omega
     case rel => exact ⟨(ji12),(wrap64 (x21_2 + 1)),(by first|rfl|(simp;done)|(simp only [<- hji12] <;> (first|rfl|simp))|(simp [*];done)),ZG,H',⟨by have := HJ1.out;have := HK2.out;omega⟩,⟨ZQ HB⟩⟩
def spec_l1Least.f (a0 : Int) (a1 : Int) : Option (Int) := if a0 < a1 then (some a0) else (some a1)
set_option maxHeartbeats 3000000 in
set_option maxRecDepth 100000 in
theorem spec_l1Least.calls (a0 : Int) (a1 : Int) (r : Int) (w : World) (h : spec_l1Least.f a0 a1 = some r) :
  Calls Tryd.prog 89 #[.int .i64 a0,.int .i64 a1] w fun e w' => e = .returned (.int .i64 r) ∧ Drawn0 w w' := by
 have H : (if a0 < a1 then (some a0) else (some a1)) = some r := h;clear h;by_cases c3 : a0 < a1
 ·rw [if_pos c3] at H;have c3b0 := decide_eq_true c3;clear c3;obtain rfl := Option.some.inj H;go_enter Tryd.func89,Tryd.ntmps89;go_wp2;go_ret;exact ⟨by first|rfl|(simp;done)|(simp [*];done),by repeat (first|exact Drawn0.refl _|apply Drawn0.step)⟩
 rw [if_neg c3] at H;have c3b0 := decide_eq_false c3;clear c3;obtain rfl := Option.some.inj H;go_enter Tryd.func89,Tryd.ntmps89;go_wp2;go_ret;exact ⟨by first|rfl|(simp;done)|(simp [*];done),by repeat (first|exact Drawn0.refl _|apply Drawn0.step)⟩
mutual
def spec_NextDay.j0 : Nat -> List (S94) -> Bool -> Option (Int × Bool)
 | 0,_,_ => none
 | k + 1,x0,x14 => if x14 = true then (some (0,false)) else (if 0 < (x0.length : Int) then (spec_NextDay.l0 k ((rd_T94 x0 0).f2) x0 (x0.length : Int) 0) else (none))
def spec_NextDay.l0 : Nat -> Int -> List (S94) -> Int -> Int -> Option (Int × Bool)
 | 0,_,_,_,_ => none
 | k + 1,x4,x19,x20,x21 => if x21 < x20 then (if 0 <= x21 then (if x21 < (x19.length : Int) then ((spec_l1Least.f x4 ((rd_T94 x19 x21).f2)).bind fun t105 => (spec_NextDay.l0 k t105 x19 x20 (wrap64 (x21 + 1)))) else (none)) else (none)) else (some (x4,true))
end
def spec_NextDay.f (k : Nat) (l0 : List (S94)) : Option (Int × Bool) := (spec_rpGood.f k l0).bind fun t101 => (if t101 = true then (spec_NextDay.j0 k l0 ((l0.length : Int) == 0)) else (spec_NextDay.j0 k l0 true))
set_option maxHeartbeats 3000000 in
set_option maxRecDepth 100000 in
theorem spec_NextDay.calls (k : Nat) (A0 : Option Addr) (c0 : Nat) (l0 : List (S94)) (r1 : Int) (r2 : Bool) (w : World) (hr0 : Kd.C k94 w A0 l0.length l0) (hc0 : l0.length <= c0) (h : spec_NextDay.f k l0 = some (r1,r2)) :
  Calls Tryd.prog 33 #[.slice A0 l0.length c0] w fun e w' => e = .returned (.tuple #[.int .i64 r1,.bool r2]) ∧ Below w.heap.size w w' := by
 have hu94 := Tryd.underlying94;have HR0 := ZA hr0;have HC0 := ZA hc0;clear hr0 hc0;have HB := ZA (Below.refl w.heap.size w);have H := h;clear h;unfold spec_NextDay.f at H;have HC2 := ZA H;clear H;go_enter Tryd.func33,Tryd.ntmps33
 go_upto_region 1 with (fail)
 go_cut [14] (fun v14 wc => ∃ (kq : Nat) (x14_1 : Bool),v14 = .bool x14_1 ∧ Aside0 (spec_NextDay.j0 kq l0 x14_1 = some (r1,r2)) ∧ Aside0 (kq <= k) ∧ Aside0 (Below w.heap.size w wc))
 case first =>
  have H := HC2.out;clear HC2;replace H := YJ H;obtain ⟨t101,A3,H⟩ := H;try dsimp only at H
  by_cases c4 : t101 = true
  ·subst c4;rw [if_pos rfl] at H;have H' := ZA H;clear H
   go_wp2_with (first|((with_reducible refine YG 79 ?_);refine YC (some 8) Tryd.func79 #[.slice A0 l0.length c0] (spec_rpGood.calls k _ _ l0 true _ (ZR (Kd.C_below HR0.out HB.out)) HC0.out A3.out) ?_;rintro e w5 ⟨rfl,hb⟩;refine ⟨_,rfl,?_⟩;replace HB := BS HB hb))
   go_meet
   case rel => exact ⟨_,(((l0.length : Int) == 0)),ZG,H',⟨YO⟩,⟨ZQ HB⟩⟩
  replace c4 := Bool.eq_false_iff.mpr c4;subst c4;rw [if_neg (show ¬ (false = true) by decide)] at H;have H' := ZA H;clear H
  go_wp2_with (first|((with_reducible refine YG 79 ?_);refine YC (some 8) Tryd.func79 #[.slice A0 l0.length c0] (spec_rpGood.calls k _ _ l0 false _ (ZR (Kd.C_below HR0.out HB.out)) HC0.out A3.out) ?_;rintro e w6 ⟨rfl,hb⟩;refine ⟨_,rfl,?_⟩;replace HB := BS HB hb))
  go_meet
  case rel => exact ⟨_,(true),ZG,H',⟨YO⟩,⟨ZQ HB⟩⟩
 case rest =>
  clear HC2;obtain ⟨kq,x14_1,rfl,HA,HJ1,HB⟩ := hcut;cases kq with
  | zero => exact absurd HA.out (by simp [spec_NextDay.j0])
  | succ kj1 =>
   have H := HA.out;clear HA;simp only [spec_NextDay.j0] at H;by_cases c7 : x14_1 = true
   ·subst c7;rw [if_pos rfl] at H;simp only [Option.some.injEq,Prod.mk.injEq] at H;obtain ⟨rfl,rfl⟩ := H;go_wp2;go_ret2;exact ⟨YR,ZQ HB⟩
   replace c7 := Bool.eq_false_iff.mpr c7;subst c7;rw [if_neg (show ¬ (false = true) by decide)] at H;replace H := YM H;obtain ⟨c8,H⟩ := H;have c8b0 := decide_eq_true c8;have c8b1 : decide (0 < l0.length) = true := decide_eq_true (by omega);clear c8;have H' := ZA H;clear H;have p102 : 0 <= (0 : Int) := (by omega);have q102 : 0 < (l0.length : Int) := ZD;obtain ⟨ad102,e102,hx102_0,hx102_1,hx102_2⟩ := at_T94 HR0.out 0 p102 q102;cases e102;have qi102 : (0 < l0.length) = True := eq_true (by omega)
   (try rw [show ((0 : Int)).toNat = 0 from rfl] at hx102_0)
   (try rw [show 0 * 3 = 0 from rfl] at hx102_0)
   (try rw [Addr.add_zero'] at hx102_0)
   (try rw [show ((0 : Int)).toNat = 0 from rfl] at hx102_1)
   (try rw [show 0 * 3 = 0 from rfl] at hx102_1)
   (try rw [Addr.add_zero'] at hx102_1)
   (try rw [show ((0 : Int)).toNat = 0 from rfl] at hx102_2)
   (try rw [show 0 * 3 = 0 from rfl] at hx102_2)
   (try rw [Addr.add_zero'] at hx102_2)
   replace hx102_0 := ZX HB hx102_0;replace hx102_1 := ZX HB hx102_1;replace hx102_2 := ZX HB hx102_2;replace p102 := eq_true p102;replace q102 := eq_true q102;go_wp2
   go_loopg [4,21] kj1 (fun kq v4 v21 w' => ∃ (x4_2 : Int) (x21_2 : Int),v4 = .int .i64 x4_2 ∧ v21 = .int .i64 x21_2 ∧ Aside0 (spec_NextDay.l0 kq x4_2 l0 (l0.length : Int) x21_2 = some (r1,r2)) ∧ Aside0 (kq <= kj1) ∧ Aside0 (Below w.heap.size w w'))
   case atStart => exact ⟨((rd_T94 l0 0).f2),(0),ZG,ZG,H',⟨Nat.le_refl _⟩,⟨ZQ HB⟩⟩
   case round =>
    clear H';obtain ⟨x4_2,x21_2,rfl,rfl,HA,HK2,HB⟩ := hrel;cases gk with
    | zero => exact absurd HA.out (by simp [spec_NextDay.l0])
    | succ k2 =>
     have H := HA.out;clear HA;simp only [spec_NextDay.l0] at H;replace H := YI H;rcases H with ⟨c9b0,H⟩|⟨c9b0,H⟩;rotate_left
     ·simp only [Option.some.injEq,Prod.mk.injEq] at H;obtain ⟨rfl,rfl⟩ := H;go_wp2;go_ret2;exact ⟨YR,ZQ HB⟩
     replace H := YN H;obtain ⟨c10b0,H⟩ := H;replace H := YN H;obtain ⟨c11b0,H⟩ := H;replace H := YJ H;obtain ⟨t105,A12,H⟩ := H;try dsimp only at H
     have H' := ZA H;clear H;have p103 : 0 <= (x21_2 : Int) := ZD;have q103 : x21_2 < (l0.length : Int) := ZD;obtain ⟨ad103,e103,hx103_0,hx103_1,hx103_2⟩ := at_T94 HR0.out x21_2 p103 q103;obtain rfl : ad102 = ad103 := (by injection e103);replace hx103_0 := ZX HB hx103_0;replace hx103_1 := ZX HB hx103_1;replace hx103_2 := ZX HB hx103_2;replace p103 := eq_true p103;replace q103 := eq_true q103
     go_wp2_with (first|((with_reducible refine gate_dst (N := 6) rfl ?_);(try (refine gate_guard (by rfl) ?_;dsimp only));refine ZE 6 #[.string (⟨#[]⟩ : ByteArray),.int .i64 0,.int .i64 0] 94 ?_;intro gb104 hg w13 hbox hb;have BK104 := ZA (hbox);have GW104 := YQ hg HB;have GE104 := YQ hg HB;replace HB := BS HB hb;clear hb hbox hg;have hcz14_0 : w13.cell? ⟨gb104,0,none⟩ = some (.string (⟨#[]⟩ : ByteArray)) := ZC BK104 0 rfl;have hcz14_1 : w13.cell? ⟨gb104,1,none⟩ = some (.int .i64 0) := ZC BK104 1 rfl;have hcz14_2 : w13.cell? ⟨gb104,2,none⟩ = some (.int .i64 0) := ZC BK104 2 rfl;have hfz14_0 := blk_frozen BK104.out 0;have hfz14_1 := blk_frozen BK104.out 1;have hfz14_2 := blk_frozen BK104.out 2)|((with_reducible refine YG 89 ?_);refine YC (some 28) Tryd.func89 #[.int .i64 x4_2,.int .i64 ((rd_T94 l0 x21_2).f2)] (spec_l1Least.calls x4_2 ((rd_T94 l0 x21_2).f2) t105 _ A12.out) ?_;rintro e w' ⟨rfl,⟨nd,rfl⟩⟩;refine ⟨_,rfl,?_⟩))
     go_roundg k2
     case measure => have := HJ1.out;have := HK2.out;omega
     case rel => exact ⟨(t105),(wrap64 (x21_2 + 1)),ZG,ZG,H',⟨by have := HJ1.out;have := HK2.out;omega⟩,⟨ZQ HB⟩⟩
def strconv_Itoa.f (a0 : Int) : Option ByteArray := if -9223372036854775808 <= a0 ∧ a0 <= 9223372036854775807 then some ⟨(Go.Lib.itoa a0).toArray⟩ else none
set_option maxHeartbeats 1000000
theorem strconv_Itoa.calls (a0 : Int) (r : ByteArray) (w : World) (ht_ : Go.Lib.TabIs Tryd.prog w "internal/strconv.uint64pow10" .u64 Go.Lib.pow10Tab) (h : strconv_Itoa.f a0 = some r) :
  Calls Tryd.prog 60 #[.int .i64 a0] w fun e w' => e = .returned (.string r) ∧ Below w.heap.size w w' := by
 unfold strconv_Itoa.f at h
 split at h
 ·rename_i hn
  obtain rfl := Option.some.inj h;refine (Tryd.strconv_Itoa a0 hn.1 hn.2 w ht_).mono ?_;rintro e w' ⟨rfl,k,os,rfl⟩;exact ⟨rfl,Go.Proofs.below_grown w k os⟩
 cases h
def impl_CardsText.l0 : Nat -> ByteArray -> List (S94) -> Int -> Int -> Option (ByteArray × Bool)
 | 0,_,_,_,_ => none
 | k + 1,x4,x10,x11,x12 => if x12 < x11 then (if 0 <= x12 then (if x12 < (x10.length : Int) then (if ((rd_T94 x10 x12).f0).size + 1 <= 9223372036854775807 then ((strconv_Itoa.f ((rd_T94 x10 x12).f1)).bind fun t104 => (if (((rd_T94 x10 x12).f0) ++ (⟨#[47]⟩ : ByteArray)).size + t104.size <= 9223372036854775807 then (if ((((rd_T94 x10 x12).f0) ++ (⟨#[47]⟩ : ByteArray)) ++ t104).size + 1 <= 9223372036854775807 then ((strconv_Itoa.f ((rd_T94 x10 x12).f2)).bind fun t105 => (if (((((rd_T94 x10 x12).f0) ++ (⟨#[47]⟩ : ByteArray)) ++ t104) ++ (⟨#[64]⟩ : ByteArray)).size + t105.size <= 9223372036854775807 then (if ((((((rd_T94 x10 x12).f0) ++ (⟨#[47]⟩ : ByteArray)) ++ t104) ++ (⟨#[64]⟩ : ByteArray)) ++ t105).size + 1 <= 9223372036854775807 then (if x4.size + (((((((rd_T94 x10 x12).f0) ++ (⟨#[47]⟩ : ByteArray)) ++ t104) ++ (⟨#[64]⟩ : ByteArray)) ++ t105) ++ (⟨#[59]⟩ : ByteArray)).size <= 9223372036854775807 then (impl_CardsText.l0 k (x4 ++ (((((((rd_T94 x10 x12).f0) ++ (⟨#[47]⟩ : ByteArray)) ++ t104) ++ (⟨#[64]⟩ : ByteArray)) ++ t105) ++ (⟨#[59]⟩ : ByteArray))) x10 x11 (wrap64 (x12 + 1))) else (none)) else (none)) else (none))) else (none)) else (none))) else (none)) else (none)) else (none)) else (some (x4,true))
def impl_CardsText.f (k : Nat) (l0 : List (S94)) : Option (ByteArray × Bool) := (impl_AreCards.f k l0).bind fun t101 => (if t101 = true then (impl_CardsText.l0 k (⟨#[]⟩ : ByteArray) l0 (l0.length : Int) 0) else (some ((⟨#[]⟩ : ByteArray),false)))
def impl_CardsText.T7 : Bool × List (List Nat × List Nat) := (true,[([],[]),([],[]),([1],[1]),([2],[2]),([],[]),([4],[4]),([5],[5]),([3,6],[3,6]),([7],[7]),([],[]),([9],[9]),([10,6],[10]),([8,11],[8,11]),([12],[12]),([0,13],[0,13]),([14,11,0,1,2,3,4,5,6,7,8,9,10,11,12,13,14],[0,14])])
def impl_CardsText.B7 : List Nat := [0,0,2,6,0,16,48,126,254,0,512,1648,4094,8190,16383,32767]
theorem impl_CardsText.tab7 : rtab .any (opsOf Tryd.f34 7) = impl_CardsText.T7 := by kernel_rfl
theorem impl_CardsText.bits7 : waitsOk impl_CardsText.T7.2 impl_CardsText.B7 = true := by kernel_rfl
set_option maxHeartbeats 3000000 in
set_option maxRecDepth 100000 in
theorem impl_CardsText.calls (k : Nat) (A0 : Option Addr) (c0 : Nat) (l0 : List (S94)) (r1 : ByteArray) (r2 : Bool) (w : World) (hr0 : Kd.C k94 w A0 l0.length l0) (hc0 : l0.length <= c0) (ht_ : Go.Lib.TabIs Tryd.prog w "internal/strconv.uint64pow10" .u64 Go.Lib.pow10Tab) (h : impl_CardsText.f k l0 = some (r1, r2)) :
  Calls Tryd.prog 34 #[.slice A0 l0.length c0] w fun e w' => e = .returned (.tuple #[.string r1,.bool r2]) ∧ Below w.heap.size w w' := by
 have HTB_ := ZA ht_;clear ht_;have hu94 := Tryd.underlying94;have HR0 := ZA hr0;have HC0 := ZA hc0;clear hr0 hc0;have HB := ZA (Below.refl w.heap.size w);have H := h;clear h;unfold impl_CardsText.f at H;replace H := YJ H;obtain ⟨t101,A2,H⟩ := H;try dsimp only at H
 replace H := YF H;rcases H with ⟨rfl,H⟩|⟨rfl,H⟩;rotate_left
 ·simp only [Option.some.injEq,Prod.mk.injEq] at H;obtain ⟨rfl,rfl⟩ := H;go_enter Tryd.func34,Tryd.ntmps34
  go_wp2_with (first|((with_reducible refine YG 41 ?_);refine YC (some 8) Tryd.func41 #[.slice A0 l0.length c0] (impl_AreCards.calls k _ _ l0 false _ (ZR HR0.out) HC0.out A2.out) ?_;rintro e w22 ⟨rfl,hb⟩;refine ⟨_,rfl,?_⟩;replace HB := BS HB hb))
  go_ret2;exact ⟨YR,ZQ HB⟩
 have H' := ZA H;clear H;go_enter Tryd.func34,Tryd.ntmps34
 go_wp2_with (first|((with_reducible refine YG 41 ?_);refine YC (some 8) Tryd.func41 #[.slice A0 l0.length c0] (impl_AreCards.calls k _ _ l0 true _ (ZR HR0.out) HC0.out A2.out) ?_;rintro e w4 ⟨rfl,hb⟩;refine ⟨_,rfl,?_⟩;replace HB := BS HB hb))
 go_loopg [4,12] k (fun kq v4 v12 w' => ∃ (x4_1 : ByteArray) (x12_1 : Int),v4 = .string x4_1 ∧ v12 = .int .i64 x12_1 ∧ Aside0 (impl_CardsText.l0 kq x4_1 l0 (l0.length : Int) x12_1 = some (r1,r2)) ∧ Aside0 (kq <= k) ∧ Aside0 (Below w.heap.size w w'))
 case atStart => exact ⟨((⟨#[]⟩ : ByteArray)),(0),ZG,ZG,H',⟨Nat.le_refl _⟩,⟨ZQ HB⟩⟩
 case round =>
  clear H';obtain ⟨x4_1,x12_1,rfl,rfl,HA,HK1,HB⟩ := hrel;cases gk with
  | zero => exact absurd HA.out (by simp [impl_CardsText.l0])
  | succ k1 =>
   have H := HA.out;clear HA;simp only [impl_CardsText.l0] at H;replace H := YI H;rcases H with ⟨c5b0,H⟩|⟨c5b0,H⟩;rotate_left
   ·simp only [Option.some.injEq,Prod.mk.injEq] at H;obtain ⟨rfl,rfl⟩ := H;go_wp2;go_ret2;exact ⟨YR,ZQ HB⟩
   replace H := YN H;obtain ⟨c6b0,H⟩ := H;replace H := YN H;obtain ⟨c7b0,H⟩ := H;replace H := YM H;obtain ⟨c8,H⟩ := H;have c8b0 := eq_true c8;have c8b1 := decide_eq_true c8
   try have c8b2 : (9223372036854775807 < ((rd_T94 l0 x12_1).f0).size + 1) = False := eq_false (Nat.not_lt.2 c8)
   replace H := YJ H;obtain ⟨t104,A9,H⟩ := H;try dsimp only at H
   replace H := YM H;obtain ⟨c10,H⟩ := H;have c10b0 := eq_true c10;have c10b1 := decide_eq_true c10
   try (have zc10_0 : (((rd_T94 l0 x12_1).f0).size + 1 + t104.size <= 9223372036854775807) = True := (by have zq_ := of_eq_true c10b0;simp only [ByteArray.size_append] at zq_;have zl0_ : (⟨#[47]⟩ : ByteArray).size = 1 := rfl;refine eq_true ?_;omega))
   try (have zc10_1 : (9223372036854775807 < ((rd_T94 l0 x12_1).f0).size + 1 + t104.size) = False := (by have zq_ := of_eq_true c10b0;simp only [ByteArray.size_append] at zq_;have zl0_ : (⟨#[47]⟩ : ByteArray).size = 1 := rfl;refine eq_false ?_;omega))
   try (have zc10_2 : (((rd_T94 l0 x12_1).f0).size + t104.size + 1 <= 9223372036854775807) = True := (by have zq_ := of_eq_true c10b0;simp only [ByteArray.size_append] at zq_;have zl0_ : (⟨#[47]⟩ : ByteArray).size = 1 := rfl;refine eq_true ?_;omega))
   try (have zc10_3 : (9223372036854775807 < ((rd_T94 l0 x12_1).f0).size + t104.size + 1) = False := (by have zq_ := of_eq_true c10b0;simp only [ByteArray.size_append] at zq_;have zl0_ : (⟨#[47]⟩ : ByteArray).size = 1 := rfl;refine eq_false ?_;omega))
   try (have zc10_4 : (((rd_T94 l0 x12_1).f0).size + t104.size <= 9223372036854775806) = True := (by have zq_ := of_eq_true c10b0;simp only [ByteArray.size_append] at zq_;have zl0_ : (⟨#[47]⟩ : ByteArray).size = 1 := rfl;refine eq_true ?_;omega))
   try (have zc10_5 : (9223372036854775806 < ((rd_T94 l0 x12_1).f0).size + t104.size) = False := (by have zq_ := of_eq_true c10b0;simp only [ByteArray.size_append] at zq_;have zl0_ : (⟨#[47]⟩ : ByteArray).size = 1 := rfl;refine eq_false ?_;omega))
   try (have zc10_6 : ((((rd_T94 l0 x12_1).f0).size + 1) + t104.size <= 9223372036854775807) = True := (by have zq_ := of_eq_true c10b0;simp only [ByteArray.size_append] at zq_;have zl0_ : (⟨#[47]⟩ : ByteArray).size = 1 := rfl;refine eq_true ?_;omega))
   try (have zc10_7 : (9223372036854775807 < (((rd_T94 l0 x12_1).f0).size + 1) + t104.size) = False := (by have zq_ := of_eq_true c10b0;simp only [ByteArray.size_append] at zq_;have zl0_ : (⟨#[47]⟩ : ByteArray).size = 1 := rfl;refine eq_false ?_;omega))
   try have c10b2 : (9223372036854775807 < (((rd_T94 l0 x12_1).f0) ++ (⟨#[47]⟩ : ByteArray)).size + t104.size) = False := eq_false (Nat.not_lt.2 c10)
   replace H := YM H;obtain ⟨c11,H⟩ := H;have c11b0 := eq_true c11;have c11b1 := decide_eq_true c11
   try (have zc11_0 : (((rd_T94 l0 x12_1).f0).size + 1 + t104.size + 1 <= 9223372036854775807) = True := (by have zq_ := of_eq_true c11b0;simp only [ByteArray.size_append] at zq_;have zl0_ : (⟨#[47]⟩ : ByteArray).size = 1 := rfl;refine eq_true ?_;omega))
   try (have zc11_1 : (9223372036854775807 < ((rd_T94 l0 x12_1).f0).size + 1 + t104.size + 1) = False := (by have zq_ := of_eq_true c11b0;simp only [ByteArray.size_append] at zq_;have zl0_ : (⟨#[47]⟩ : ByteArray).size = 1 := rfl;refine eq_false ?_;omega))
   try (have zc11_2 : (((rd_T94 l0 x12_1).f0).size + t104.size + 2 <= 9223372036854775807) = True := (by have zq_ := of_eq_true c11b0;simp only [ByteArray.size_append] at zq_;have zl0_ : (⟨#[47]⟩ : ByteArray).size = 1 := rfl;refine eq_true ?_;omega))
   try (have zc11_3 : (9223372036854775807 < ((rd_T94 l0 x12_1).f0).size + t104.size + 2) = False := (by have zq_ := of_eq_true c11b0;simp only [ByteArray.size_append] at zq_;have zl0_ : (⟨#[47]⟩ : ByteArray).size = 1 := rfl;refine eq_false ?_;omega))
   try (have zc11_4 : (((rd_T94 l0 x12_1).f0).size + t104.size <= 9223372036854775805) = True := (by have zq_ := of_eq_true c11b0;simp only [ByteArray.size_append] at zq_;have zl0_ : (⟨#[47]⟩ : ByteArray).size = 1 := rfl;refine eq_true ?_;omega))
   try (have zc11_5 : (9223372036854775805 < ((rd_T94 l0 x12_1).f0).size + t104.size) = False := (by have zq_ := of_eq_true c11b0;simp only [ByteArray.size_append] at zq_;have zl0_ : (⟨#[47]⟩ : ByteArray).size = 1 := rfl;refine eq_false ?_;omega))
   try (have zc11_6 : ((((rd_T94 l0 x12_1).f0).size + 1 + t104.size) + 1 <= 9223372036854775807) = True := (by have zq_ := of_eq_true c11b0;simp only [ByteArray.size_append] at zq_;have zl0_ : (⟨#[47]⟩ : ByteArray).size = 1 := rfl;refine eq_true ?_;omega))
   try (have zc11_7 : (9223372036854775807 < (((rd_T94 l0 x12_1).f0).size + 1 + t104.size) + 1) = False := (by have zq_ := of_eq_true c11b0;simp only [ByteArray.size_append] at zq_;have zl0_ : (⟨#[47]⟩ : ByteArray).size = 1 := rfl;refine eq_false ?_;omega))
   try have c11b2 : (9223372036854775807 < ((((rd_T94 l0 x12_1).f0) ++ (⟨#[47]⟩ : ByteArray)) ++ t104).size + 1) = False := eq_false (Nat.not_lt.2 c11)
   replace H := YJ H;obtain ⟨t105,A12,H⟩ := H;try dsimp only at H
   replace H := YM H;obtain ⟨c13,H⟩ := H;have c13b0 := eq_true c13;have c13b1 := decide_eq_true c13
   try (have zc13_0 : (((rd_T94 l0 x12_1).f0).size + 1 + t104.size + 1 + t105.size <= 9223372036854775807) = True := (by have zq_ := of_eq_true c13b0;simp only [ByteArray.size_append] at zq_;have zl0_ : (⟨#[47]⟩ : ByteArray).size = 1 := rfl;have zl1_ : (⟨#[64]⟩ : ByteArray).size = 1 := rfl;refine eq_true ?_;omega))
   try (have zc13_1 : (9223372036854775807 < ((rd_T94 l0 x12_1).f0).size + 1 + t104.size + 1 + t105.size) = False := (by have zq_ := of_eq_true c13b0;simp only [ByteArray.size_append] at zq_;have zl0_ : (⟨#[47]⟩ : ByteArray).size = 1 := rfl;have zl1_ : (⟨#[64]⟩ : ByteArray).size = 1 := rfl;refine eq_false ?_;omega))
   try (have zc13_2 : (((rd_T94 l0 x12_1).f0).size + t104.size + t105.size + 2 <= 9223372036854775807) = True := (by have zq_ := of_eq_true c13b0;simp only [ByteArray.size_append] at zq_;have zl0_ : (⟨#[47]⟩ : ByteArray).size = 1 := rfl;have zl1_ : (⟨#[64]⟩ : ByteArray).size = 1 := rfl;refine eq_true ?_;omega))
   try (have zc13_3 : (9223372036854775807 < ((rd_T94 l0 x12_1).f0).size + t104.size + t105.size + 2) = False := (by have zq_ := of_eq_true c13b0;simp only [ByteArray.size_append] at zq_;have zl0_ : (⟨#[47]⟩ : ByteArray).size = 1 := rfl;have zl1_ : (⟨#[64]⟩ : ByteArray).size = 1 := rfl;refine eq_false ?_;omega))
   try (have zc13_4 : (((rd_T94 l0 x12_1).f0).size + t104.size + t105.size <= 9223372036854775805) = True := (by have zq_ := of_eq_true c13b0;simp only [ByteArray.size_append] at zq_;have zl0_ : (⟨#[47]⟩ : ByteArray).size = 1 := rfl;have zl1_ : (⟨#[64]⟩ : ByteArray).size = 1 := rfl;refine eq_true ?_;omega))
   try (have zc13_5 : (9223372036854775805 < ((rd_T94 l0 x12_1).f0).size + t104.size + t105.size) = False := (by have zq_ := of_eq_true c13b0;simp only [ByteArray.size_append] at zq_;have zl0_ : (⟨#[47]⟩ : ByteArray).size = 1 := rfl;have zl1_ : (⟨#[64]⟩ : ByteArray).size = 1 := rfl;refine eq_false ?_;omega))
   try (have zc13_6 : ((((rd_T94 l0 x12_1).f0).size + 1 + t104.size + 1) + t105.size <= 9223372036854775807) = True := (by have zq_ := of_eq_true c13b0;simp only [ByteArray.size_append] at zq_;have zl0_ : (⟨#[47]⟩ : ByteArray).size = 1 := rfl;have zl1_ : (⟨#[64]⟩ : ByteArray).size = 1 := rfl;refine eq_true ?_;omega))
   try (have zc13_7 : (9223372036854775807 < (((rd_T94 l0 x12_1).f0).size + 1 + t104.size + 1) + t105.size) = False := (by have zq_ := of_eq_true c13b0;simp only [ByteArray.size_append] at zq_;have zl0_ : (⟨#[47]⟩ : ByteArray).size = 1 := rfl;have zl1_ : (⟨#[64]⟩ : ByteArray).size = 1 := rfl;refine eq_false ?_;omega))
   try have c13b2 : (9223372036854775807 < (((((rd_T94 l0 x12_1).f0) ++ (⟨#[47]⟩ : ByteArray)) ++ t104) ++ (⟨#[64]⟩ : ByteArray)).size + t105.size) = False := eq_false (Nat.not_lt.2 c13)
   replace H := YM H;obtain ⟨c14,H⟩ := H;have c14b0 := eq_true c14;have c14b1 := decide_eq_true c14
   try (have zc14_0 : (((rd_T94 l0 x12_1).f0).size + 1 + t104.size + 1 + t105.size + 1 <= 9223372036854775807) = True := (by have zq_ := of_eq_true c14b0;simp only [ByteArray.size_append] at zq_;have zl0_ : (⟨#[47]⟩ : ByteArray).size = 1 := rfl;have zl1_ : (⟨#[64]⟩ : ByteArray).size = 1 := rfl;refine eq_true ?_;omega))
   try (have zc14_1 : (9223372036854775807 < ((rd_T94 l0 x12_1).f0).size + 1 + t104.size + 1 + t105.size + 1) = False := (by have zq_ := of_eq_true c14b0;simp only [ByteArray.size_append] at zq_;have zl0_ : (⟨#[47]⟩ : ByteArray).size = 1 := rfl;have zl1_ : (⟨#[64]⟩ : ByteArray).size = 1 := rfl;refine eq_false ?_;omega))
   try (have zc14_2 : (((rd_T94 l0 x12_1).f0).size + t104.size + t105.size + 3 <= 9223372036854775807) = True := (by have zq_ := of_eq_true c14b0;simp only [ByteArray.size_append] at zq_;have zl0_ : (⟨#[47]⟩ : ByteArray).size = 1 := rfl;have zl1_ : (⟨#[64]⟩ : ByteArray).size = 1 := rfl;refine eq_true ?_;omega))
   try (have zc14_3 : (9223372036854775807 < ((rd_T94 l0 x12_1).f0).size + t104.size + t105.size + 3) = False := (by have zq_ := of_eq_true c14b0;simp only [ByteArray.size_append] at zq_;have zl0_ : (⟨#[47]⟩ : ByteArray).size = 1 := rfl;have zl1_ : (⟨#[64]⟩ : ByteArray).size = 1 := rfl;refine eq_false ?_;omega))
   try (have zc14_4 : (((rd_T94 l0 x12_1).f0).size + t104.size + t105.size <= 9223372036854775804) = True := (by have zq_ := of_eq_true c14b0;simp only [ByteArray.size_append] at zq_;have zl0_ : (⟨#[47]⟩ : ByteArray).size = 1 := rfl;have zl1_ : (⟨#[64]⟩ : ByteArray).size = 1 := rfl;refine eq_true ?_;omega))
   try (have zc14_5 : (9223372036854775804 < ((rd_T94 l0 x12_1).f0).size + t104.size + t105.size) = False := (by have zq_ := of_eq_true c14b0;simp only [ByteArray.size_append] at zq_;have zl0_ : (⟨#[47]⟩ : ByteArray).size = 1 := rfl;have zl1_ : (⟨#[64]⟩ : ByteArray).size = 1 := rfl;refine eq_false ?_;omega))
   try (have zc14_6 : ((((rd_T94 l0 x12_1).f0).size + 1 + t104.size + 1 + t105.size) + 1 <= 9223372036854775807) = True := (by have zq_ := of_eq_true c14b0;simp only [ByteArray.size_append] at zq_;have zl0_ : (⟨#[47]⟩ : ByteArray).size = 1 := rfl;have zl1_ : (⟨#[64]⟩ : ByteArray).size = 1 := rfl;refine eq_true ?_;omega))
   try (have zc14_7 : (9223372036854775807 < (((rd_T94 l0 x12_1).f0).size + 1 + t104.size + 1 + t105.size) + 1) = False := (by have zq_ := of_eq_true c14b0;simp only [ByteArray.size_append] at zq_;have zl0_ : (⟨#[47]⟩ : ByteArray).size = 1 := rfl;have zl1_ : (⟨#[64]⟩ : ByteArray).size = 1 := rfl;refine eq_false ?_;omega))
   try have c14b2 : (9223372036854775807 < ((((((rd_T94 l0 x12_1).f0) ++ (⟨#[47]⟩ : ByteArray)) ++ t104) ++ (⟨#[64]⟩ : ByteArray)) ++ t105).size + 1) = False := eq_false (Nat.not_lt.2 c14)
   replace H := YM H;obtain ⟨c15,H⟩ := H;have c15b0 := eq_true c15;have c15b1 := decide_eq_true c15
   try (have zc15_0 : (x4_1.size + ((rd_T94 l0 x12_1).f0).size + 1 + t104.size + 1 + t105.size + 1 <= 9223372036854775807) = True := (by have zq_ := of_eq_true c15b0;simp only [ByteArray.size_append] at zq_;have zl0_ : (⟨#[47]⟩ : ByteArray).size = 1 := rfl;have zl1_ : (⟨#[64]⟩ : ByteArray).size = 1 := rfl;have zl2_ : (⟨#[59]⟩ : ByteArray).size = 1 := rfl;refine eq_true ?_;omega))
   try (have zc15_1 : (9223372036854775807 < x4_1.size + ((rd_T94 l0 x12_1).f0).size + 1 + t104.size + 1 + t105.size + 1) = False := (by have zq_ := of_eq_true c15b0;simp only [ByteArray.size_append] at zq_;have zl0_ : (⟨#[47]⟩ : ByteArray).size = 1 := rfl;have zl1_ : (⟨#[64]⟩ : ByteArray).size = 1 := rfl;have zl2_ : (⟨#[59]⟩ : ByteArray).size = 1 := rfl;refine eq_false ?_;omega))
   try (have zc15_2 : (x4_1.size + ((rd_T94 l0 x12_1).f0).size + t104.size + t105.size + 3 <= 9223372036854775807) = True := (by have zq_ := of_eq_true c15b0;simp only [ByteArray.size_append] at zq_;have zl0_ : (⟨#[47]⟩ : ByteArray).size = 1 := rfl;have zl1_ : (⟨#[64]⟩ : ByteArray).size = 1 := rfl;have zl2_ : (⟨#[59]⟩ : ByteArray).size = 1 := rfl;refine eq_true ?_;omega))
   try (have zc15_3 : (9223372036854775807 < x4_1.size + ((rd_T94 l0 x12_1).f0).size + t104.size + t105.size + 3) = False := (by have zq_ := of_eq_true c15b0;simp only [ByteArray.size_append] at zq_;have zl0_ : (⟨#[47]⟩ : ByteArray).size = 1 := rfl;have zl1_ : (⟨#[64]⟩ : ByteArray).size = 1 := rfl;have zl2_ : (⟨#[59]⟩ : ByteArray).size = 1 := rfl;refine eq_false ?_;omega))
   try (have zc15_4 : (x4_1.size + ((rd_T94 l0 x12_1).f0).size + t104.size + t105.size <= 9223372036854775804) = True := (by have zq_ := of_eq_true c15b0;simp only [ByteArray.size_append] at zq_;have zl0_ : (⟨#[47]⟩ : ByteArray).size = 1 := rfl;have zl1_ : (⟨#[64]⟩ : ByteArray).size = 1 := rfl;have zl2_ : (⟨#[59]⟩ : ByteArray).size = 1 := rfl;refine eq_true ?_;omega))
   try (have zc15_5 : (9223372036854775804 < x4_1.size + ((rd_T94 l0 x12_1).f0).size + t104.size + t105.size) = False := (by have zq_ := of_eq_true c15b0;simp only [ByteArray.size_append] at zq_;have zl0_ : (⟨#[47]⟩ : ByteArray).size = 1 := rfl;have zl1_ : (⟨#[64]⟩ : ByteArray).size = 1 := rfl;have zl2_ : (⟨#[59]⟩ : ByteArray).size = 1 := rfl;refine eq_false ?_;omega))
   try (have zc15_6 : (x4_1.size + (((rd_T94 l0 x12_1).f0).size + 1 + t104.size + 1 + t105.size + 1) <= 9223372036854775807) = True := (by have zq_ := of_eq_true c15b0;simp only [ByteArray.size_append] at zq_;have zl0_ : (⟨#[47]⟩ : ByteArray).size = 1 := rfl;have zl1_ : (⟨#[64]⟩ : ByteArray).size = 1 := rfl;have zl2_ : (⟨#[59]⟩ : ByteArray).size = 1 := rfl;refine eq_true ?_;omega))
   try (have zc15_7 : (9223372036854775807 < x4_1.size + (((rd_T94 l0 x12_1).f0).size + 1 + t104.size + 1 + t105.size + 1)) = False := (by have zq_ := of_eq_true c15b0;simp only [ByteArray.size_append] at zq_;have zl0_ : (⟨#[47]⟩ : ByteArray).size = 1 := rfl;have zl1_ : (⟨#[64]⟩ : ByteArray).size = 1 := rfl;have zl2_ : (⟨#[59]⟩ : ByteArray).size = 1 := rfl;refine eq_false ?_;omega))
   try have c15b2 : (9223372036854775807 < x4_1.size + (((((((rd_T94 l0 x12_1).f0) ++ (⟨#[47]⟩ : ByteArray)) ++ t104) ++ (⟨#[64]⟩ : ByteArray)) ++ t105) ++ (⟨#[59]⟩ : ByteArray)).size) = False := eq_false (Nat.not_lt.2 c15)
   have H' := ZA H;clear H;have p102 : 0 <= (x12_1 : Int) := ZD;have q102 : x12_1 < (l0.length : Int) := ZD;obtain ⟨ad102,e102,hx102_0,hx102_1,hx102_2⟩ := at_T94 HR0.out x12_1 p102 q102;cases e102;replace hx102_0 := ZX HB hx102_0;replace hx102_1 := ZX HB hx102_1;replace hx102_2 := ZX HB hx102_2;replace p102 := eq_true p102;replace q102 := eq_true q102
   try go_wp2_with (first|((with_reducible refine gate_dst (N := 6) rfl ?_);refine ZE 6 #[.string (⟨#[]⟩ : ByteArray),.int .i64 0,.int .i64 0] 94 ?_;intro gb103 hg w16 hbox hb;have BK103 := ZA (hbox);have GW103 := YQ hg HB;have GE103 := YQ hg HB;replace HB := BS HB hb;clear hb hbox hg;have hcz17_0 : w16.cell? ⟨gb103,0,none⟩ = some (.string (⟨#[]⟩ : ByteArray)) := ZC BK103 0 rfl;have hcz17_1 : w16.cell? ⟨gb103,1,none⟩ = some (.int .i64 0) := ZC BK103 1 rfl;have hcz17_2 : w16.cell? ⟨gb103,2,none⟩ = some (.int .i64 0) := ZC BK103 2 rfl;have hfz17_0 := blk_frozen BK103.out 0;have hfz17_1 := blk_frozen BK103.out 1;have hfz17_2 := blk_frozen BK103.out 2))
   have n0_ : Aside0 ((((w16.setCell ⟨gb103,0,none⟩ (.string ((rd_T94 l0 x12_1).f0))).setCell ⟨gb103,1,none⟩ (.int .i64 ((rd_T94 l0 x12_1).f1))).setCell ⟨gb103,2,none⟩ (.int .i64 ((rd_T94 l0 x12_1).f2))).heap[gb103]? = some (.cells #[.string ((rd_T94 l0 x12_1).f0),.int .i64 ((rd_T94 l0 x12_1).f1),.int .i64 ((rd_T94 l0 x12_1).f2)] 94 (0,0))) := ⟨by refine ZY ?_;refine blk_put (cs := #[.string ((rd_T94 l0 x12_1).f0),.int .i64 ((rd_T94 l0 x12_1).f1),.int .i64 0]) ?_ 2 _ rfl;refine ZY ?_;refine blk_put (cs := #[.string ((rd_T94 l0 x12_1).f0),.int .i64 0,.int .i64 0]) ?_ 1 _ rfl;refine ZY ?_;refine blk_put (cs := #[.string (⟨#[]⟩ : ByteArray),.int .i64 0,.int .i64 0]) ?_ 0 _ rfl;refine ZY ?_;exact BK103.out⟩;have n1_ : Aside0 (Below w.heap.size w (((w16.setCell ⟨gb103,0,none⟩ (.string ((rd_T94 l0 x12_1).f0))).setCell ⟨gb103,1,none⟩ (.int .i64 ((rd_T94 l0 x12_1).f1))).setCell ⟨gb103,2,none⟩ (.int .i64 ((rd_T94 l0 x12_1).f2)))) := ⟨ZQ HB⟩;generalize (((w16.setCell ⟨gb103,0,none⟩ (.string ((rd_T94 l0 x12_1).f0))).setCell ⟨gb103,1,none⟩ (.int .i64 ((rd_T94 l0 x12_1).f1))).setCell ⟨gb103,2,none⟩ (.int .i64 ((rd_T94 l0 x12_1).f2))) = w18 at n0_ n1_ ⊢;have BK103 := n0_;have HB := n1_;clear n0_ n1_;replace BK103 := ZA (blk_drew BK103.out);replace HB := ZA (below_drew1 HB.out);refine start_ (n := 16) (S := fun w' => w'.cell? ⟨gb103,0,none⟩ = some (.string ((rd_T94 l0 x12_1).f0)) ∧ w'.cell? ⟨gb103,1,none⟩ = some (.int .i64 ((rd_T94 l0 x12_1).f1)) ∧ w'.cell? ⟨gb103,2,none⟩ = some (.int .i64 ((rd_T94 l0 x12_1).f2))) (ds := []) (ZL 16 0) (by kernel_rfl) rfl rfl ⟨ZC BK103 0 rfl,ZC BK103 1 rfl,ZC BK103 2 rfl⟩ (fun hHeld => ?_);refine with_tabW impl_CardsText.tab7 impl_CardsText.bits7 (fun HT_ HW_ => ?_);generalize w18.drew = w19 at BK103 HB hHeld ⊢;refine YP 0 16 (ZL 16 1) rfl rfl HT_ ?_;refine YP 1 17 (ZL 16 3) rfl rfl HT_ ?_;refine YP 4 20 (ZL 16 19) rfl rfl HT_ ?_;refine YP 9 25 (ZL 16 531) rfl rfl HT_ ?_;refine YT 2 18 (ZL 16 535) rfl rfl HT_ HW_ hHeld ?_;refine YP 3 19 (ZL 16 543) rfl rfl HT_ ?_;refine YT 5 21 (ZL 16 575) rfl rfl HT_ HW_ hHeld ?_;refine YT 10 26 (ZL 16 1599) rfl rfl HT_ HW_ hHeld ?_;refine ZO 6 22 (ZL 16 1663) rfl rfl HT_ fun K hK => ?_
   refine YS Tryd.func60 #[.int .i64 ((rd_T94 l0 x12_1).f1)] ?_
   with_reducible refine (strconv_Itoa.calls ((rd_T94 l0 x12_1).f1) t104 _ (Go.Proofs.YtkobnljfoedmnaaDoorW.GTab.tab_below HTB_.out (ZQ HB)) A9.out).mono ?_
   rintro e w20 ⟨rfl,hb⟩;refine ⟨_,rfl,?_⟩;replace BK103 := ZA (blk_below (ZH BK103) hb);replace HB := BS HB hb;refine hK.out _ _ ⟨ZC BK103 0 rfl,ZC BK103 1 rfl,ZC BK103 2 rfl⟩ (fun hHeld => ?_);clear hK K;refine YZ (some 22) ?_;refine YP 7 23 (ZL 16 1791) rfl rfl HT_ ?_;refine YP 8 24 (ZL 16 2047) rfl rfl HT_ ?_;refine ZO 11 27 (ZL 16 4095) rfl rfl HT_ fun K hK => ?_
   refine YS Tryd.func60 #[.int .i64 ((rd_T94 l0 x12_1).f2)] ?_
   with_reducible refine (strconv_Itoa.calls ((rd_T94 l0 x12_1).f2) t105 _ (Go.Proofs.YtkobnljfoedmnaaDoorW.GTab.tab_below HTB_.out (ZQ HB)) A12.out).mono ?_
   rintro e w21 ⟨rfl,hb⟩;refine ⟨_,rfl,?_⟩;replace BK103 := ZA (blk_below (ZH BK103) hb);replace HB := BS HB hb;refine hK.out _ _ ⟨ZC BK103 0 rfl,ZC BK103 1 rfl,ZC BK103 2 rfl⟩ (fun hHeld => ?_);clear hK K;refine YZ (some 27) ?_;refine YP 12 28 (ZL 16 8191) rfl rfl HT_ ?_;refine YP 13 29 (ZL 16 16383) rfl rfl HT_ ?_;refine YP 14 30 (ZL 16 32767) rfl rfl HT_ ?_;refine YP 15 4 (ZL 16 65535) rfl rfl HT_ ?_;refine done_ (done_of HT_.out (by kernel_rfl)) ?_
   try go_wp2
   go_roundg k1
   case measure => have := HK1.out;omega
   case rel => exact ⟨(x4_1 ++ (((((((rd_T94 l0 x12_1).f0) ++ (⟨#[47]⟩ : ByteArray)) ++ t104) ++ (⟨#[64]⟩ : ByteArray)) ++ t105) ++ (⟨#[59]⟩ : ByteArray))),(wrap64 (x12_1 + 1)),ZG,ZG,H',⟨by have := HK1.out;omega⟩,⟨ZQ HB⟩⟩
def spec_l1Num.f : Nat -> Int -> Option (ByteArray)
 | 0,_ => none
 | k + 1,a0 => if a0 < 10 then (some (strOfNums (([(wrap64 (48 + a0)) % 256] : List Int)))) else ((spec_l1Num.f k (wrap64 (Int.tdiv a0 10))).bind fun t104 => ((some (([(wrap64 (48 + (Int.tmod a0 10))) % 256] : List Int) : List Int)).bind fun y105 => (if t104.size + (strOfNums y105).size <= 9223372036854775807 then (some (t104 ++ (strOfNums y105))) else (none))))
def spec_l1Num.T3 : Bool × List (List Nat × List Nat) := (true,[([],[]),([0],[0]),([1],[1]),([],[]),([3],[3]),([4],[4]),([5],[5]),([6],[6]),([7],[7]),([2,8],[2,8]),([9,2,0,1,2,3,4,5,6,7,8,9],[9])])
def spec_l1Num.B3 : List Nat := [0,1,3,0,8,24,56,120,248,511,1023]
theorem spec_l1Num.tab3 : rtab .any (opsOf Tryd.f62 3) = spec_l1Num.T3 := by kernel_rfl
theorem spec_l1Num.bits3 : waitsOk spec_l1Num.T3.2 spec_l1Num.B3 = true := by kernel_rfl
set_option maxHeartbeats 3000000 in
set_option maxRecDepth 100000 in
theorem spec_l1Num.calls (k : Nat) : ∀ (a0 : Int) (r : ByteArray) (w : World) (h : spec_l1Num.f k a0 = some r),
  Calls Tryd.prog 62 #[.int .i64 a0] w fun e w' => e = .returned (.string r) ∧ Below w.heap.size w w' := by
 induction k using Nat.strongRecOn with
 | _ k ih =>
 intro a0 r w h;cases k with
 | zero => exact absurd h (by simp [spec_l1Num.f])
 | succ k =>
 simp only [spec_l1Num.f] at h;have HB := ZA (Below.refl w.heap.size w);have H : (if a0 < 10 then (some (strOfNums (([(wrap64 (48 + a0)) % 256] : List Int)))) else ((spec_l1Num.f k (wrap64 (Int.tdiv a0 10))).bind fun t104 => ((some (([(wrap64 (48 + (Int.tmod a0 10))) % 256] : List Int) : List Int)).bind fun y105 => (if t104.size + (strOfNums y105).size <= 9223372036854775807 then (some (t104 ++ (strOfNums y105))) else (none))))) = some r := h;clear h;by_cases c2 : a0 < 10
 ·rw [if_pos c2] at H;have c2b0 := decide_eq_true c2;clear c2;obtain ⟨y101,hy101⟩ : ∃ y_ : List Int,y_ = (([(wrap64 (48 + a0)) % 256] : List Int)) := ⟨_,rfl⟩;replace H : (some (strOfNums y101)) = some r := YH hy101 H;have Ny101 := ZA hy101;clear hy101;obtain rfl := Option.some.inj H;go_enter Tryd.func62,Tryd.ntmps62
  go_wp2_with (first|((with_reducible refine gate_dst (N := 8) rfl ?_);refine Kd.R_lit (Kd.int .u8) _ 5 ?hg (N := 8) ?hd (xs := ([(wrap64 (48 + a0)) % 256] : List Int)) (inner := [.int .u8 ((wrap64 (48 + a0)) % 256)]) (ok := fun _ => True) (okp := fun _ => True) ?hr ?hp (fun _ hk => hk) trivial (Below.refl _ _) (Nat.le_refl _) (by simp) ?_;(case hd => rfl);(case hg => rfl);(case hr => first|(go_simp;done)|(go_simp;rfl));(case hp => exact (Reps.one (show Kd.M (Kd.int .u8) _ _ _ ((wrap64 (48 + a0)) % 256) [.int .u8 ((wrap64 (48 + a0)) % 256)] from rfl) (Reps.none _ _)));intro v102 w3 ho4 hb hg_ hnew_;clear hg_ hnew_;(first|rw [<- Ny101.out] at ho4|(simp only [Int.reduceToNat] at ho4;rw [<- Ny101.out] at ho4));have HO103 := ZA (Kd.R_lower ho4 (SZ HB));replace HB := BS HB hb;clear hb ho4;have hcv5 := own_string (P := Tryd.prog) Tryd.underlying22 Tryd.underlying5 Tryd.underlying9 (Kd.own_of_R HO103.out)))
  go_ret;exact ⟨YR,ZQ HB⟩
 rw [if_neg c2] at H;have c2b0 := decide_eq_false c2;clear c2;replace H := YJ H;obtain ⟨t104,A6,H⟩ := H;try dsimp only at H
 obtain ⟨y105,hy105⟩ : ∃ y_ : List Int,y_ = (([(wrap64 (48 + (Int.tmod a0 10))) % 256] : List Int)) := ⟨_,rfl⟩;replace H : (if t104.size + (strOfNums y105).size <= 9223372036854775807 then (some (t104 ++ (strOfNums y105))) else (none)) = some r := YH hy105 H;have Ny105 := ZA hy105;clear hy105;replace H := YM H;obtain ⟨c7,H⟩ := H;have c7b0 := eq_true c7;have c7b1 := decide_eq_true c7
 try have c7b2 : (9223372036854775807 < t104.size + (strOfNums y105).size) = False := eq_false (Nat.not_lt.2 c7)
 obtain rfl := Option.some.inj H;go_enter Tryd.func62,Tryd.ntmps62
 try go_wp2
 replace HB := ZA (below_drew1 HB.out);refine start_ (n := 11) (S := fun w' => True) (ds := []) (ZL 11 0) (by kernel_rfl) rfl rfl trivial (fun hHeld => ?_);refine with_tabW spec_l1Num.tab3 spec_l1Num.bits3 (fun HT_ HW_ => ?_);generalize w.drew = w8 at HB hHeld ⊢;refine YP 0 10 (ZL 11 1) rfl rfl HT_ ?_;refine YP 1 11 (ZL 11 3) rfl rfl HT_ ?_;refine YP 3 13 (ZL 11 11) rfl rfl HT_ ?_;refine YP 4 14 (ZL 11 27) rfl rfl HT_ ?_;refine YP 5 15 (ZL 11 59) rfl rfl HT_ ?_;refine YP 6 16 (ZL 11 123) rfl rfl HT_ ?_;refine join_ (σ := Value) 2 (ZL 11 511) (fun s_ => [(12,.string t104),(17,s_),(18,.string (strOfNums y105))]) (fun s_ w' => (Kd.R (Kd.int .u8) 5 w' w.heap.size (fun _ => True) s_ y105) ∧ (Below w.heap.size w w')) ?_ ?_;rotate_left
 ·intro hCont;refine two_ (i := 2) (j := 7) (Ni := some 12) (Nj := some 17) (ZL 11 127) (ZL 11 251) rfl rfl rfl rfl (two_of HT_.out (by kernel_rfl)) (by decide) (by decide) (fun K hK => ?_) (fun K hK => ?_)
  ·skip
   refine YS Tryd.func62 #[.int .i64 (wrap64 (Int.tdiv a0 10))] ?_
   with_reducible refine (ih k (by omega) (wrap64 (Int.tdiv a0 10)) t104 _ A6.out).mono ?_
   rintro e w9 ⟨rfl,hb⟩;refine ⟨_,rfl,?_⟩;replace HB := BS HB hb;refine hK.out _ _ trivial (fun hHeld => ?_);clear hK K;refine YZ (some 12) ?_;refine ZO 7 17 (ZL 11 255) rfl rfl HT_ fun K hK => ?_
   refine Kd.R_lit_step (Kd.int .u8) _ 5 ?hg (N := 17) ?hd (xs := ([(wrap64 (48 + (Int.tmod a0 10))) % 256] : List Int)) (inner := [.int .u8 ((wrap64 (48 + (Int.tmod a0 10))) % 256)]) (ok := fun _ => True) (okp := fun _ => True) ?hr ?hp (fun _ hk => hk) trivial (Below.refl _ _) (Nat.le_refl _) (by simp) ?_;(case hd => rfl);(case hg => rfl);(case hr => first|(go_simp;done)|(go_simp;rfl));(case hp => exact (Reps.one (show Kd.M (Kd.int .u8) _ _ _ ((wrap64 (48 + (Int.tmod a0 10))) % 256) [.int .u8 ((wrap64 (48 + (Int.tmod a0 10))) % 256)] from rfl) (Reps.none _ _)))
   intro v106 w10 ho11 hb hg_ hnew_;clear hg_ hnew_
   (first|rw [<- Ny105.out] at ho11|(simp only [Int.reduceToNat] at ho11;rw [<- Ny105.out] at ho11))
   have HO107 := ZA (Kd.R_lower ho11 (SZ HB));replace HB := BS HB hb;clear hb ho11;refine hK.out _ _ trivial (fun hHeld => ?_);clear hK K;refine YZ (some 17) ?_;refine ZO 8 18 (ZL 11 511) rfl rfl HT_ fun K hK => ?_
   have hcv12 := own_string (P := Tryd.prog) Tryd.underlying22 Tryd.underlying5 Tryd.underlying9 (Kd.own_of_R HO107.out);refine value_ (w1 := ?_) (v := ?_) (by rfl) rfl ?_ ?_;rotate_left 2
   ·go_simp
    constructor
    ·rfl
    rfl
   clear hcv12;refine hK.out _ _ trivial (fun hHeld => ?_);clear hK K;refine YZ (some 18) ?_;exact norm_ (by simp only [putAll,Act.put,zuA,zuB,zuC]) (hCont (v106) _ ⟨(ZK HO107),(ZQ HB)⟩)
  skip
  refine Kd.R_lit_step (Kd.int .u8) _ 5 ?hg (N := 17) ?hd (xs := ([(wrap64 (48 + (Int.tmod a0 10))) % 256] : List Int)) (inner := [.int .u8 ((wrap64 (48 + (Int.tmod a0 10))) % 256)]) (ok := fun _ => True) (okp := fun _ => True) ?hr ?hp (fun _ hk => hk) trivial (Below.refl _ _) (Nat.le_refl _) (by simp) ?_;(case hd => rfl);(case hg => rfl);(case hr => first|(go_simp;done)|(go_simp;rfl));(case hp => exact (Reps.one (show Kd.M (Kd.int .u8) _ _ _ ((wrap64 (48 + (Int.tmod a0 10))) % 256) [.int .u8 ((wrap64 (48 + (Int.tmod a0 10))) % 256)] from rfl) (Reps.none _ _)))
  intro v106 w9 ho10 hb hg_ hnew_;clear hg_ hnew_
  (first|rw [<- Ny105.out] at ho10|(simp only [Int.reduceToNat] at ho10;rw [<- Ny105.out] at ho10))
  have HO107 := ZA (Kd.R_lower ho10 (SZ HB));replace HB := BS HB hb;clear hb ho10;refine hK.out _ _ trivial (fun hHeld => ?_);clear hK K;refine YZ (some 17) ?_;refine two_ (i := 2) (j := 8) (Ni := some 12) (Nj := some 18) (ZL 11 255) (ZL 11 507) rfl rfl rfl rfl (two_of HT_.out (by kernel_rfl)) (by decide) (by decide) (fun K hK => ?_) (fun K hK => ?_)
  ·skip
   refine YS Tryd.func62 #[.int .i64 (wrap64 (Int.tdiv a0 10))] ?_
   with_reducible refine (ih k (by omega) (wrap64 (Int.tdiv a0 10)) t104 _ A6.out).mono ?_
   rintro e w11 ⟨rfl,hb⟩;refine ⟨_,rfl,?_⟩;replace HO107 := ZBR HO107 hb;replace HB := BS HB hb;refine hK.out _ _ trivial (fun hHeld => ?_);clear hK K;refine YZ (some 12) ?_;refine ZO 8 18 (ZL 11 511) rfl rfl HT_ fun K hK => ?_
   have hcv12 := own_string (P := Tryd.prog) Tryd.underlying22 Tryd.underlying5 Tryd.underlying9 (Kd.own_of_R HO107.out);refine value_ (w1 := ?_) (v := ?_) (by rfl) rfl ?_ ?_;rotate_left 2
   ·go_simp
    constructor
    ·rfl
    rfl
   clear hcv12;refine hK.out _ _ trivial (fun hHeld => ?_);clear hK K;refine YZ (some 18) ?_;exact norm_ (by simp only [putAll,Act.put,zuA,zuB,zuC]) (hCont (v106) _ ⟨(ZK HO107),(ZQ HB)⟩)
  skip
  have hcv11 := own_string (P := Tryd.prog) Tryd.underlying22 Tryd.underlying5 Tryd.underlying9 (Kd.own_of_R HO107.out);refine value_ (w1 := ?_) (v := ?_) (by rfl) rfl ?_ ?_;rotate_left 2
  ·go_simp
   constructor
   ·rfl
   rfl
  clear hcv11;refine hK.out _ _ trivial (fun hHeld => ?_);clear hK K;refine YZ (some 18) ?_;refine ZO 2 12 (ZL 11 511) rfl rfl HT_ fun K hK => ?_
  refine YS Tryd.func62 #[.int .i64 (wrap64 (Int.tdiv a0 10))] ?_
  with_reducible refine (ih k (by omega) (wrap64 (Int.tdiv a0 10)) t104 _ A6.out).mono ?_
  rintro e w12 ⟨rfl,hb⟩;refine ⟨_,rfl,?_⟩;replace HO107 := ZBR HO107 hb;replace HB := BS HB hb;refine hK.out _ _ trivial (fun hHeld => ?_);clear hK K;refine YZ (some 12) ?_;exact norm_ (by simp only [putAll,Act.put,zuA,zuB,zuC]) (hCont (v106) _ ⟨(ZK HO107),(ZQ HB)⟩)
 rintro v106 w13 ⟨h0_,h1_⟩;have HO107 := ZA h0_;replace HB := ZA h1_;clear h0_ h1_;have hHeld := trivial;refine norm_ (a' := ?_) ?_ ?_;rotate_left
 ·simp only [putAll,Act.put,zuA,zuB,zuC];rfl
 refine YP 9 19 (ZL 11 1023) rfl rfl HT_ ?_;refine YP 10 2 (ZL 11 2047) rfl rfl HT_ ?_;refine done_ (done_of HT_.out (by kernel_rfl)) ?_
 try go_wp2
 go_ret;exact ⟨YR,ZQ HB⟩
def spec_CardsText.l0 : Nat -> ByteArray -> List (S94) -> Int -> Int -> Option (ByteArray × Bool)
 | 0,_,_,_,_ => none
 | k + 1,x4,x10,x11,x12 => if x12 < x11 then (if 0 <= x12 then (if x12 < (x10.length : Int) then (if ((rd_T94 x10 x12).f0).size + 1 <= 9223372036854775807 then ((spec_l1Num.f k ((rd_T94 x10 x12).f1)).bind fun t104 => (if (((rd_T94 x10 x12).f0) ++ (⟨#[47]⟩ : ByteArray)).size + t104.size <= 9223372036854775807 then (if ((((rd_T94 x10 x12).f0) ++ (⟨#[47]⟩ : ByteArray)) ++ t104).size + 1 <= 9223372036854775807 then ((spec_l1Num.f k ((rd_T94 x10 x12).f2)).bind fun t105 => (if (((((rd_T94 x10 x12).f0) ++ (⟨#[47]⟩ : ByteArray)) ++ t104) ++ (⟨#[64]⟩ : ByteArray)).size + t105.size <= 9223372036854775807 then (if ((((((rd_T94 x10 x12).f0) ++ (⟨#[47]⟩ : ByteArray)) ++ t104) ++ (⟨#[64]⟩ : ByteArray)) ++ t105).size + 1 <= 9223372036854775807 then (if x4.size + (((((((rd_T94 x10 x12).f0) ++ (⟨#[47]⟩ : ByteArray)) ++ t104) ++ (⟨#[64]⟩ : ByteArray)) ++ t105) ++ (⟨#[59]⟩ : ByteArray)).size <= 9223372036854775807 then (spec_CardsText.l0 k (x4 ++ (((((((rd_T94 x10 x12).f0) ++ (⟨#[47]⟩ : ByteArray)) ++ t104) ++ (⟨#[64]⟩ : ByteArray)) ++ t105) ++ (⟨#[59]⟩ : ByteArray))) x10 x11 (wrap64 (x12 + 1))) else (none)) else (none)) else (none))) else (none)) else (none))) else (none)) else (none)) else (none)) else (some (x4,true))
def spec_CardsText.f (k : Nat) (l0 : List (S94)) : Option (ByteArray × Bool) := (spec_rpGood.f k l0).bind fun t101 => (if t101 = true then (spec_CardsText.l0 k (⟨#[]⟩ : ByteArray) l0 (l0.length : Int) 0) else (some ((⟨#[]⟩ : ByteArray),false)))
def spec_CardsText.T7 : Bool × List (List Nat × List Nat) := (true,[([],[]),([],[]),([1],[1]),([2],[2]),([],[]),([4],[4]),([5],[5]),([3,6],[3,6]),([7],[7]),([],[]),([9],[9]),([10,6],[10]),([8,11],[8,11]),([12],[12]),([0,13],[0,13]),([14,11,0,1,2,3,4,5,6,7,8,9,10,11,12,13,14],[0,14])])
def spec_CardsText.B7 : List Nat := [0,0,2,6,0,16,48,126,254,0,512,1648,4094,8190,16383,32767]
theorem spec_CardsText.tab7 : rtab .any (opsOf Tryd.f35 7) = spec_CardsText.T7 := by kernel_rfl
theorem spec_CardsText.bits7 : waitsOk spec_CardsText.T7.2 spec_CardsText.B7 = true := by kernel_rfl
set_option maxHeartbeats 3000000 in
set_option maxRecDepth 100000 in
theorem spec_CardsText.calls (k : Nat) (A0 : Option Addr) (c0 : Nat) (l0 : List (S94)) (r1 : ByteArray) (r2 : Bool) (w : World) (hr0 : Kd.C k94 w A0 l0.length l0) (hc0 : l0.length <= c0) (h : spec_CardsText.f k l0 = some (r1,r2)) :
  Calls Tryd.prog 35 #[.slice A0 l0.length c0] w fun e w' => e = .returned (.tuple #[.string r1,.bool r2]) ∧ Below w.heap.size w w' := by
 have hu94 := Tryd.underlying94;have HR0 := ZA hr0;have HC0 := ZA hc0;clear hr0 hc0;have HB := ZA (Below.refl w.heap.size w);have H := h;clear h;unfold spec_CardsText.f at H;replace H := YJ H;obtain ⟨t101,A2,H⟩ := H;try dsimp only at H
 replace H := YF H;rcases H with ⟨rfl,H⟩|⟨rfl,H⟩;rotate_left
 ·simp only [Option.some.injEq,Prod.mk.injEq] at H;obtain ⟨rfl,rfl⟩ := H;go_enter Tryd.func35,Tryd.ntmps35
  go_wp2_with (first|((with_reducible refine YG 79 ?_);refine YC (some 8) Tryd.func79 #[.slice A0 l0.length c0] (spec_rpGood.calls k _ _ l0 false _ (ZR HR0.out) HC0.out A2.out) ?_;rintro e w22 ⟨rfl,hb⟩;refine ⟨_,rfl,?_⟩;replace HB := BS HB hb))
  go_ret2;exact ⟨YR,ZQ HB⟩
 have H' := ZA H;clear H;go_enter Tryd.func35,Tryd.ntmps35
 go_wp2_with (first|((with_reducible refine YG 79 ?_);refine YC (some 8) Tryd.func79 #[.slice A0 l0.length c0] (spec_rpGood.calls k _ _ l0 true _ (ZR HR0.out) HC0.out A2.out) ?_;rintro e w4 ⟨rfl,hb⟩;refine ⟨_,rfl,?_⟩;replace HB := BS HB hb))
 go_loopg [4,12] k (fun kq v4 v12 w' => ∃ (x4_1 : ByteArray) (x12_1 : Int),v4 = .string x4_1 ∧ v12 = .int .i64 x12_1 ∧ Aside0 (spec_CardsText.l0 kq x4_1 l0 (l0.length : Int) x12_1 = some (r1,r2)) ∧ Aside0 (kq <= k) ∧ Aside0 (Below w.heap.size w w'))
 case atStart => exact ⟨((⟨#[]⟩ : ByteArray)),(0),ZG,ZG,H',⟨Nat.le_refl _⟩,⟨ZQ HB⟩⟩
 case round =>
  clear H';obtain ⟨x4_1,x12_1,rfl,rfl,HA,HK1,HB⟩ := hrel;cases gk with
  | zero => exact absurd HA.out (by simp [spec_CardsText.l0])
  | succ k1 =>
   have H := HA.out;clear HA;simp only [spec_CardsText.l0] at H;replace H := YI H;rcases H with ⟨c5b0,H⟩|⟨c5b0,H⟩;rotate_left
   ·simp only [Option.some.injEq,Prod.mk.injEq] at H;obtain ⟨rfl,rfl⟩ := H;go_wp2;go_ret2;exact ⟨YR,ZQ HB⟩
   replace H := YN H;obtain ⟨c6b0,H⟩ := H;replace H := YN H;obtain ⟨c7b0,H⟩ := H;replace H := YM H;obtain ⟨c8,H⟩ := H;have c8b0 := eq_true c8;have c8b1 := decide_eq_true c8
   try have c8b2 : (9223372036854775807 < ((rd_T94 l0 x12_1).f0).size + 1) = False := eq_false (Nat.not_lt.2 c8)
   replace H := YJ H;obtain ⟨t104,A9,H⟩ := H;try dsimp only at H
   replace H := YM H;obtain ⟨c10,H⟩ := H;have c10b0 := eq_true c10;have c10b1 := decide_eq_true c10
   try (have zc10_0 : (((rd_T94 l0 x12_1).f0).size + 1 + t104.size <= 9223372036854775807) = True := (by have zq_ := of_eq_true c10b0;simp only [ByteArray.size_append] at zq_;have zl0_ : (⟨#[47]⟩ : ByteArray).size = 1 := rfl;refine eq_true ?_;omega))
   try (have zc10_1 : (9223372036854775807 < ((rd_T94 l0 x12_1).f0).size + 1 + t104.size) = False := (by have zq_ := of_eq_true c10b0;simp only [ByteArray.size_append] at zq_;have zl0_ : (⟨#[47]⟩ : ByteArray).size = 1 := rfl;refine eq_false ?_;omega))
   try (have zc10_2 : (((rd_T94 l0 x12_1).f0).size + t104.size + 1 <= 9223372036854775807) = True := (by have zq_ := of_eq_true c10b0;simp only [ByteArray.size_append] at zq_;have zl0_ : (⟨#[47]⟩ : ByteArray).size = 1 := rfl;refine eq_true ?_;omega))
   try (have zc10_3 : (9223372036854775807 < ((rd_T94 l0 x12_1).f0).size + t104.size + 1) = False := (by have zq_ := of_eq_true c10b0;simp only [ByteArray.size_append] at zq_;have zl0_ : (⟨#[47]⟩ : ByteArray).size = 1 := rfl;refine eq_false ?_;omega))
   try (have zc10_4 : (((rd_T94 l0 x12_1).f0).size + t104.size <= 9223372036854775806) = True := (by have zq_ := of_eq_true c10b0;simp only [ByteArray.size_append] at zq_;have zl0_ : (⟨#[47]⟩ : ByteArray).size = 1 := rfl;refine eq_true ?_;omega))
   try (have zc10_5 : (9223372036854775806 < ((rd_T94 l0 x12_1).f0).size + t104.size) = False := (by have zq_ := of_eq_true c10b0;simp only [ByteArray.size_append] at zq_;have zl0_ : (⟨#[47]⟩ : ByteArray).size = 1 := rfl;refine eq_false ?_;omega))
   try (have zc10_6 : ((((rd_T94 l0 x12_1).f0).size + 1) + t104.size <= 9223372036854775807) = True := (by have zq_ := of_eq_true c10b0;simp only [ByteArray.size_append] at zq_;have zl0_ : (⟨#[47]⟩ : ByteArray).size = 1 := rfl;refine eq_true ?_;omega))
   try (have zc10_7 : (9223372036854775807 < (((rd_T94 l0 x12_1).f0).size + 1) + t104.size) = False := (by have zq_ := of_eq_true c10b0;simp only [ByteArray.size_append] at zq_;have zl0_ : (⟨#[47]⟩ : ByteArray).size = 1 := rfl;refine eq_false ?_;omega))
   try have c10b2 : (9223372036854775807 < (((rd_T94 l0 x12_1).f0) ++ (⟨#[47]⟩ : ByteArray)).size + t104.size) = False := eq_false (Nat.not_lt.2 c10)
   replace H := YM H;obtain ⟨c11,H⟩ := H;have c11b0 := eq_true c11;have c11b1 := decide_eq_true c11
   try (have zc11_0 : (((rd_T94 l0 x12_1).f0).size + 1 + t104.size + 1 <= 9223372036854775807) = True := (by have zq_ := of_eq_true c11b0;simp only [ByteArray.size_append] at zq_;have zl0_ : (⟨#[47]⟩ : ByteArray).size = 1 := rfl;refine eq_true ?_;omega))
   try (have zc11_1 : (9223372036854775807 < ((rd_T94 l0 x12_1).f0).size + 1 + t104.size + 1) = False := (by have zq_ := of_eq_true c11b0;simp only [ByteArray.size_append] at zq_;have zl0_ : (⟨#[47]⟩ : ByteArray).size = 1 := rfl;refine eq_false ?_;omega))
   try (have zc11_2 : (((rd_T94 l0 x12_1).f0).size + t104.size + 2 <= 9223372036854775807) = True := (by have zq_ := of_eq_true c11b0;simp only [ByteArray.size_append] at zq_;have zl0_ : (⟨#[47]⟩ : ByteArray).size = 1 := rfl;refine eq_true ?_;omega))
   try (have zc11_3 : (9223372036854775807 < ((rd_T94 l0 x12_1).f0).size + t104.size + 2) = False := (by have zq_ := of_eq_true c11b0;simp only [ByteArray.size_append] at zq_;have zl0_ : (⟨#[47]⟩ : ByteArray).size = 1 := rfl;refine eq_false ?_;omega))
   try (have zc11_4 : (((rd_T94 l0 x12_1).f0).size + t104.size <= 9223372036854775805) = True := (by have zq_ := of_eq_true c11b0;simp only [ByteArray.size_append] at zq_;have zl0_ : (⟨#[47]⟩ : ByteArray).size = 1 := rfl;refine eq_true ?_;omega))
   try (have zc11_5 : (9223372036854775805 < ((rd_T94 l0 x12_1).f0).size + t104.size) = False := (by have zq_ := of_eq_true c11b0;simp only [ByteArray.size_append] at zq_;have zl0_ : (⟨#[47]⟩ : ByteArray).size = 1 := rfl;refine eq_false ?_;omega))
   try (have zc11_6 : ((((rd_T94 l0 x12_1).f0).size + 1 + t104.size) + 1 <= 9223372036854775807) = True := (by have zq_ := of_eq_true c11b0;simp only [ByteArray.size_append] at zq_;have zl0_ : (⟨#[47]⟩ : ByteArray).size = 1 := rfl;refine eq_true ?_;omega))
   try (have zc11_7 : (9223372036854775807 < (((rd_T94 l0 x12_1).f0).size + 1 + t104.size) + 1) = False := (by have zq_ := of_eq_true c11b0;simp only [ByteArray.size_append] at zq_;have zl0_ : (⟨#[47]⟩ : ByteArray).size = 1 := rfl;refine eq_false ?_;omega))
   try have c11b2 : (9223372036854775807 < ((((rd_T94 l0 x12_1).f0) ++ (⟨#[47]⟩ : ByteArray)) ++ t104).size + 1) = False := eq_false (Nat.not_lt.2 c11)
   replace H := YJ H;obtain ⟨t105,A12,H⟩ := H;try dsimp only at H
   replace H := YM H;obtain ⟨c13,H⟩ := H;have c13b0 := eq_true c13;have c13b1 := decide_eq_true c13
   try (have zc13_0 : (((rd_T94 l0 x12_1).f0).size + 1 + t104.size + 1 + t105.size <= 9223372036854775807) = True := (by have zq_ := of_eq_true c13b0;simp only [ByteArray.size_append] at zq_;have zl0_ : (⟨#[47]⟩ : ByteArray).size = 1 := rfl;have zl1_ : (⟨#[64]⟩ : ByteArray).size = 1 := rfl;refine eq_true ?_;omega))
   try (have zc13_1 : (9223372036854775807 < ((rd_T94 l0 x12_1).f0).size + 1 + t104.size + 1 + t105.size) = False := (by have zq_ := of_eq_true c13b0;simp only [ByteArray.size_append] at zq_;have zl0_ : (⟨#[47]⟩ : ByteArray).size = 1 := rfl;have zl1_ : (⟨#[64]⟩ : ByteArray).size = 1 := rfl;refine eq_false ?_;omega))
   try (have zc13_2 : (((rd_T94 l0 x12_1).f0).size + t104.size + t105.size + 2 <= 9223372036854775807) = True := (by have zq_ := of_eq_true c13b0;simp only [ByteArray.size_append] at zq_;have zl0_ : (⟨#[47]⟩ : ByteArray).size = 1 := rfl;have zl1_ : (⟨#[64]⟩ : ByteArray).size = 1 := rfl;refine eq_true ?_;omega))
   try (have zc13_3 : (9223372036854775807 < ((rd_T94 l0 x12_1).f0).size + t104.size + t105.size + 2) = False := (by have zq_ := of_eq_true c13b0;simp only [ByteArray.size_append] at zq_;have zl0_ : (⟨#[47]⟩ : ByteArray).size = 1 := rfl;have zl1_ : (⟨#[64]⟩ : ByteArray).size = 1 := rfl;refine eq_false ?_;omega))
   try (have zc13_4 : (((rd_T94 l0 x12_1).f0).size + t104.size + t105.size <= 9223372036854775805) = True := (by have zq_ := of_eq_true c13b0;simp only [ByteArray.size_append] at zq_;have zl0_ : (⟨#[47]⟩ : ByteArray).size = 1 := rfl;have zl1_ : (⟨#[64]⟩ : ByteArray).size = 1 := rfl;refine eq_true ?_;omega))
   try (have zc13_5 : (9223372036854775805 < ((rd_T94 l0 x12_1).f0).size + t104.size + t105.size) = False := (by have zq_ := of_eq_true c13b0;simp only [ByteArray.size_append] at zq_;have zl0_ : (⟨#[47]⟩ : ByteArray).size = 1 := rfl;have zl1_ : (⟨#[64]⟩ : ByteArray).size = 1 := rfl;refine eq_false ?_;omega))
   try (have zc13_6 : ((((rd_T94 l0 x12_1).f0).size + 1 + t104.size + 1) + t105.size <= 9223372036854775807) = True := (by have zq_ := of_eq_true c13b0;simp only [ByteArray.size_append] at zq_;have zl0_ : (⟨#[47]⟩ : ByteArray).size = 1 := rfl;have zl1_ : (⟨#[64]⟩ : ByteArray).size = 1 := rfl;refine eq_true ?_;omega))
   try (have zc13_7 : (9223372036854775807 < (((rd_T94 l0 x12_1).f0).size + 1 + t104.size + 1) + t105.size) = False := (by have zq_ := of_eq_true c13b0;simp only [ByteArray.size_append] at zq_;have zl0_ : (⟨#[47]⟩ : ByteArray).size = 1 := rfl;have zl1_ : (⟨#[64]⟩ : ByteArray).size = 1 := rfl;refine eq_false ?_;omega))
   try have c13b2 : (9223372036854775807 < (((((rd_T94 l0 x12_1).f0) ++ (⟨#[47]⟩ : ByteArray)) ++ t104) ++ (⟨#[64]⟩ : ByteArray)).size + t105.size) = False := eq_false (Nat.not_lt.2 c13)
   replace H := YM H;obtain ⟨c14,H⟩ := H;have c14b0 := eq_true c14;have c14b1 := decide_eq_true c14
   try (have zc14_0 : (((rd_T94 l0 x12_1).f0).size + 1 + t104.size + 1 + t105.size + 1 <= 9223372036854775807) = True := (by have zq_ := of_eq_true c14b0;simp only [ByteArray.size_append] at zq_;have zl0_ : (⟨#[47]⟩ : ByteArray).size = 1 := rfl;have zl1_ : (⟨#[64]⟩ : ByteArray).size = 1 := rfl;refine eq_true ?_;omega))
   try (have zc14_1 : (9223372036854775807 < ((rd_T94 l0 x12_1).f0).size + 1 + t104.size + 1 + t105.size + 1) = False := (by have zq_ := of_eq_true c14b0;simp only [ByteArray.size_append] at zq_;have zl0_ : (⟨#[47]⟩ : ByteArray).size = 1 := rfl;have zl1_ : (⟨#[64]⟩ : ByteArray).size = 1 := rfl;refine eq_false ?_;omega))
   try (have zc14_2 : (((rd_T94 l0 x12_1).f0).size + t104.size + t105.size + 3 <= 9223372036854775807) = True := (by have zq_ := of_eq_true c14b0;simp only [ByteArray.size_append] at zq_;have zl0_ : (⟨#[47]⟩ : ByteArray).size = 1 := rfl;have zl1_ : (⟨#[64]⟩ : ByteArray).size = 1 := rfl;refine eq_true ?_;omega))
   try (have zc14_3 : (9223372036854775807 < ((rd_T94 l0 x12_1).f0).size + t104.size + t105.size + 3) = False := (by have zq_ := of_eq_true c14b0;simp only [ByteArray.size_append] at zq_;have zl0_ : (⟨#[47]⟩ : ByteArray).size = 1 := rfl;have zl1_ : (⟨#[64]⟩ : ByteArray).size = 1 := rfl;refine eq_false ?_;omega))
   try (have zc14_4 : (((rd_T94 l0 x12_1).f0).size + t104.size + t105.size <= 9223372036854775804) = True := (by have zq_ := of_eq_true c14b0;simp only [ByteArray.size_append] at zq_;have zl0_ : (⟨#[47]⟩ : ByteArray).size = 1 := rfl;have zl1_ : (⟨#[64]⟩ : ByteArray).size = 1 := rfl;refine eq_true ?_;omega))
   try (have zc14_5 : (9223372036854775804 < ((rd_T94 l0 x12_1).f0).size + t104.size + t105.size) = False := (by have zq_ := of_eq_true c14b0;simp only [ByteArray.size_append] at zq_;have zl0_ : (⟨#[47]⟩ : ByteArray).size = 1 := rfl;have zl1_ : (⟨#[64]⟩ : ByteArray).size = 1 := rfl;refine eq_false ?_;omega))
   try (have zc14_6 : ((((rd_T94 l0 x12_1).f0).size + 1 + t104.size + 1 + t105.size) + 1 <= 9223372036854775807) = True := (by have zq_ := of_eq_true c14b0;simp only [ByteArray.size_append] at zq_;have zl0_ : (⟨#[47]⟩ : ByteArray).size = 1 := rfl;have zl1_ : (⟨#[64]⟩ : ByteArray).size = 1 := rfl;refine eq_true ?_;omega))
   try (have zc14_7 : (9223372036854775807 < (((rd_T94 l0 x12_1).f0).size + 1 + t104.size + 1 + t105.size) + 1) = False := (by have zq_ := of_eq_true c14b0;simp only [ByteArray.size_append] at zq_;have zl0_ : (⟨#[47]⟩ : ByteArray).size = 1 := rfl;have zl1_ : (⟨#[64]⟩ : ByteArray).size = 1 := rfl;refine eq_false ?_;omega))
   try have c14b2 : (9223372036854775807 < ((((((rd_T94 l0 x12_1).f0) ++ (⟨#[47]⟩ : ByteArray)) ++ t104) ++ (⟨#[64]⟩ : ByteArray)) ++ t105).size + 1) = False := eq_false (Nat.not_lt.2 c14)
   replace H := YM H;obtain ⟨c15,H⟩ := H;have c15b0 := eq_true c15;have c15b1 := decide_eq_true c15
   try (have zc15_0 : (x4_1.size + ((rd_T94 l0 x12_1).f0).size + 1 + t104.size + 1 + t105.size + 1 <= 9223372036854775807) = True := (by have zq_ := of_eq_true c15b0;simp only [ByteArray.size_append] at zq_;have zl0_ : (⟨#[47]⟩ : ByteArray).size = 1 := rfl;have zl1_ : (⟨#[64]⟩ : ByteArray).size = 1 := rfl;have zl2_ : (⟨#[59]⟩ : ByteArray).size = 1 := rfl;refine eq_true ?_;omega))
   try (have zc15_1 : (9223372036854775807 < x4_1.size + ((rd_T94 l0 x12_1).f0).size + 1 + t104.size + 1 + t105.size + 1) = False := (by have zq_ := of_eq_true c15b0;simp only [ByteArray.size_append] at zq_;have zl0_ : (⟨#[47]⟩ : ByteArray).size = 1 := rfl;have zl1_ : (⟨#[64]⟩ : ByteArray).size = 1 := rfl;have zl2_ : (⟨#[59]⟩ : ByteArray).size = 1 := rfl;refine eq_false ?_;omega))
   try (have zc15_2 : (x4_1.size + ((rd_T94 l0 x12_1).f0).size + t104.size + t105.size + 3 <= 9223372036854775807) = True := (by have zq_ := of_eq_true c15b0;simp only [ByteArray.size_append] at zq_;have zl0_ : (⟨#[47]⟩ : ByteArray).size = 1 := rfl;have zl1_ : (⟨#[64]⟩ : ByteArray).size = 1 := rfl;have zl2_ : (⟨#[59]⟩ : ByteArray).size = 1 := rfl;refine eq_true ?_;omega))
   try (have zc15_3 : (9223372036854775807 < x4_1.size + ((rd_T94 l0 x12_1).f0).size + t104.size + t105.size + 3) = False := (by have zq_ := of_eq_true c15b0;simp only [ByteArray.size_append] at zq_;have zl0_ : (⟨#[47]⟩ : ByteArray).size = 1 := rfl;have zl1_ : (⟨#[64]⟩ : ByteArray).size = 1 := rfl;have zl2_ : (⟨#[59]⟩ : ByteArray).size = 1 := rfl;refine eq_false ?_;omega))
   try (have zc15_4 : (x4_1.size + ((rd_T94 l0 x12_1).f0).size + t104.size + t105.size <= 9223372036854775804) = True := (by have zq_ := of_eq_true c15b0;simp only [ByteArray.size_append] at zq_;have zl0_ : (⟨#[47]⟩ : ByteArray).size = 1 := rfl;have zl1_ : (⟨#[64]⟩ : ByteArray).size = 1 := rfl;have zl2_ : (⟨#[59]⟩ : ByteArray).size = 1 := rfl;refine eq_true ?_;omega))
   try (have zc15_5 : (9223372036854775804 < x4_1.size + ((rd_T94 l0 x12_1).f0).size + t104.size + t105.size) = False := (by have zq_ := of_eq_true c15b0;simp only [ByteArray.size_append] at zq_;have zl0_ : (⟨#[47]⟩ : ByteArray).size = 1 := rfl;have zl1_ : (⟨#[64]⟩ : ByteArray).size = 1 := rfl;have zl2_ : (⟨#[59]⟩ : ByteArray).size = 1 := rfl;refine eq_false ?_;omega))
   try (have zc15_6 : (x4_1.size + (((rd_T94 l0 x12_1).f0).size + 1 + t104.size + 1 + t105.size + 1) <= 9223372036854775807) = True := (by have zq_ := of_eq_true c15b0;simp only [ByteArray.size_append] at zq_;have zl0_ : (⟨#[47]⟩ : ByteArray).size = 1 := rfl;have zl1_ : (⟨#[64]⟩ : ByteArray).size = 1 := rfl;have zl2_ : (⟨#[59]⟩ : ByteArray).size = 1 := rfl;refine eq_true ?_;omega))
   try (have zc15_7 : (9223372036854775807 < x4_1.size + (((rd_T94 l0 x12_1).f0).size + 1 + t104.size + 1 + t105.size + 1)) = False := (by have zq_ := of_eq_true c15b0;simp only [ByteArray.size_append] at zq_;have zl0_ : (⟨#[47]⟩ : ByteArray).size = 1 := rfl;have zl1_ : (⟨#[64]⟩ : ByteArray).size = 1 := rfl;have zl2_ : (⟨#[59]⟩ : ByteArray).size = 1 := rfl;refine eq_false ?_;omega))
   try have c15b2 : (9223372036854775807 < x4_1.size + (((((((rd_T94 l0 x12_1).f0) ++ (⟨#[47]⟩ : ByteArray)) ++ t104) ++ (⟨#[64]⟩ : ByteArray)) ++ t105) ++ (⟨#[59]⟩ : ByteArray)).size) = False := eq_false (Nat.not_lt.2 c15)
   have H' := ZA H;clear H;have p102 : 0 <= (x12_1 : Int) := ZD;have q102 : x12_1 < (l0.length : Int) := ZD;obtain ⟨ad102,e102,hx102_0,hx102_1,hx102_2⟩ := at_T94 HR0.out x12_1 p102 q102;cases e102;replace hx102_0 := ZX HB hx102_0;replace hx102_1 := ZX HB hx102_1;replace hx102_2 := ZX HB hx102_2;replace p102 := eq_true p102;replace q102 := eq_true q102
   try go_wp2_with (first|((with_reducible refine gate_dst (N := 6) rfl ?_);refine ZE 6 #[.string (⟨#[]⟩ : ByteArray),.int .i64 0,.int .i64 0] 94 ?_;intro gb103 hg w16 hbox hb;have BK103 := ZA (hbox);have GW103 := YQ hg HB;have GE103 := YQ hg HB;replace HB := BS HB hb;clear hb hbox hg;have hcz17_0 : w16.cell? ⟨gb103,0,none⟩ = some (.string (⟨#[]⟩ : ByteArray)) := ZC BK103 0 rfl;have hcz17_1 : w16.cell? ⟨gb103,1,none⟩ = some (.int .i64 0) := ZC BK103 1 rfl;have hcz17_2 : w16.cell? ⟨gb103,2,none⟩ = some (.int .i64 0) := ZC BK103 2 rfl;have hfz17_0 := blk_frozen BK103.out 0;have hfz17_1 := blk_frozen BK103.out 1;have hfz17_2 := blk_frozen BK103.out 2))
   have n0_ : Aside0 ((((w16.setCell ⟨gb103,0,none⟩ (.string ((rd_T94 l0 x12_1).f0))).setCell ⟨gb103,1,none⟩ (.int .i64 ((rd_T94 l0 x12_1).f1))).setCell ⟨gb103,2,none⟩ (.int .i64 ((rd_T94 l0 x12_1).f2))).heap[gb103]? = some (.cells #[.string ((rd_T94 l0 x12_1).f0),.int .i64 ((rd_T94 l0 x12_1).f1),.int .i64 ((rd_T94 l0 x12_1).f2)] 94 (0,0))) := ⟨by refine ZY ?_;refine blk_put (cs := #[.string ((rd_T94 l0 x12_1).f0),.int .i64 ((rd_T94 l0 x12_1).f1),.int .i64 0]) ?_ 2 _ rfl;refine ZY ?_;refine blk_put (cs := #[.string ((rd_T94 l0 x12_1).f0),.int .i64 0,.int .i64 0]) ?_ 1 _ rfl;refine ZY ?_;refine blk_put (cs := #[.string (⟨#[]⟩ : ByteArray),.int .i64 0,.int .i64 0]) ?_ 0 _ rfl;refine ZY ?_;exact BK103.out⟩;have n1_ : Aside0 (Below w.heap.size w (((w16.setCell ⟨gb103,0,none⟩ (.string ((rd_T94 l0 x12_1).f0))).setCell ⟨gb103,1,none⟩ (.int .i64 ((rd_T94 l0 x12_1).f1))).setCell ⟨gb103,2,none⟩ (.int .i64 ((rd_T94 l0 x12_1).f2)))) := ⟨ZQ HB⟩;generalize (((w16.setCell ⟨gb103,0,none⟩ (.string ((rd_T94 l0 x12_1).f0))).setCell ⟨gb103,1,none⟩ (.int .i64 ((rd_T94 l0 x12_1).f1))).setCell ⟨gb103,2,none⟩ (.int .i64 ((rd_T94 l0 x12_1).f2))) = w18 at n0_ n1_ ⊢;have BK103 := n0_;have HB := n1_;clear n0_ n1_;replace BK103 := ZA (blk_drew BK103.out);replace HB := ZA (below_drew1 HB.out);refine start_ (n := 16) (S := fun w' => w'.cell? ⟨gb103,0,none⟩ = some (.string ((rd_T94 l0 x12_1).f0)) ∧ w'.cell? ⟨gb103,1,none⟩ = some (.int .i64 ((rd_T94 l0 x12_1).f1)) ∧ w'.cell? ⟨gb103,2,none⟩ = some (.int .i64 ((rd_T94 l0 x12_1).f2))) (ds := []) (ZL 16 0) (by kernel_rfl) rfl rfl ⟨ZC BK103 0 rfl,ZC BK103 1 rfl,ZC BK103 2 rfl⟩ (fun hHeld => ?_);refine with_tabW spec_CardsText.tab7 spec_CardsText.bits7 (fun HT_ HW_ => ?_);generalize w18.drew = w19 at BK103 HB hHeld ⊢;refine YP 0 16 (ZL 16 1) rfl rfl HT_ ?_;refine YP 1 17 (ZL 16 3) rfl rfl HT_ ?_;refine YP 4 20 (ZL 16 19) rfl rfl HT_ ?_;refine YP 9 25 (ZL 16 531) rfl rfl HT_ ?_;refine YT 2 18 (ZL 16 535) rfl rfl HT_ HW_ hHeld ?_;refine YP 3 19 (ZL 16 543) rfl rfl HT_ ?_;refine YT 5 21 (ZL 16 575) rfl rfl HT_ HW_ hHeld ?_;refine YT 10 26 (ZL 16 1599) rfl rfl HT_ HW_ hHeld ?_;refine ZO 6 22 (ZL 16 1663) rfl rfl HT_ fun K hK => ?_
   refine YS Tryd.func62 #[.int .i64 ((rd_T94 l0 x12_1).f1)] ?_
   with_reducible refine (spec_l1Num.calls k1 ((rd_T94 l0 x12_1).f1) t104 _ A9.out).mono ?_
   rintro e w20 ⟨rfl,hb⟩;refine ⟨_,rfl,?_⟩;replace BK103 := ZA (blk_below (ZH BK103) hb);replace HB := BS HB hb;refine hK.out _ _ ⟨ZC BK103 0 rfl,ZC BK103 1 rfl,ZC BK103 2 rfl⟩ (fun hHeld => ?_);clear hK K;refine YZ (some 22) ?_;refine YP 7 23 (ZL 16 1791) rfl rfl HT_ ?_;refine YP 8 24 (ZL 16 2047) rfl rfl HT_ ?_;refine ZO 11 27 (ZL 16 4095) rfl rfl HT_ fun K hK => ?_
   refine YS Tryd.func62 #[.int .i64 ((rd_T94 l0 x12_1).f2)] ?_
   with_reducible refine (spec_l1Num.calls k1 ((rd_T94 l0 x12_1).f2) t105 _ A12.out).mono ?_
   rintro e w21 ⟨rfl,hb⟩;refine ⟨_,rfl,?_⟩;replace BK103 := ZA (blk_below (ZH BK103) hb);replace HB := BS HB hb;refine hK.out _ _ ⟨ZC BK103 0 rfl,ZC BK103 1 rfl,ZC BK103 2 rfl⟩ (fun hHeld => ?_);clear hK K;refine YZ (some 27) ?_;refine YP 12 28 (ZL 16 8191) rfl rfl HT_ ?_;refine YP 13 29 (ZL 16 16383) rfl rfl HT_ ?_;refine YP 14 30 (ZL 16 32767) rfl rfl HT_ ?_;refine YP 15 4 (ZL 16 65535) rfl rfl HT_ ?_;refine done_ (done_of HT_.out (by kernel_rfl)) ?_
   try go_wp2
   go_roundg k1
   case measure => have := HK1.out;omega
   case rel => exact ⟨(x4_1 ++ (((((((rd_T94 l0 x12_1).f0) ++ (⟨#[47]⟩ : ByteArray)) ++ t104) ++ (⟨#[64]⟩ : ByteArray)) ++ t105) ++ (⟨#[59]⟩ : ByteArray))),(wrap64 (x12_1 + 1)),ZG,ZG,H',⟨by have := HK1.out;omega⟩,⟨ZQ HB⟩⟩
def spec_DrawDueCards.f (k : Nat) (l0 : List Int) : Option ((List (S94)) × Int) := (spec_l1Cur_cards.f k l0 0 0).bind fun bt102 => ((spec_l1Cur_cardDay.f l0 bt102.2.1 bt102.2.2).bind fun bt107 => (some (bt102.1,bt107.1)))
set_option maxHeartbeats 3000000 in
set_option maxRecDepth 100000 in
theorem spec_DrawDueCards.calls (k : Nat) (A0 : Option Addr) (c0 : Nat) (l0 : List Int) (r1 : List (S94)) (r2 : Int) (w : World) (hr0 : Kd.C (Kd.int .u8) w A0 l0.length l0) (hc0 : l0.length <= c0) (h : spec_DrawDueCards.f k l0 = some (r1,r2)) :
  Calls Tryd.prog 36 #[.slice A0 l0.length c0] w fun e w' => ∃ v0_ : Value,e = .returned (.tuple #[v0_,.int .i64 r2]) ∧ Kd.R k94 94 w' w.heap.size (fun _ => True) v0_ r1 ∧ Below w.heap.size w w' := by
 have hu72 := Tryd.underlying72;have HR0 := ZA hr0;have HC0 := ZA hc0;clear hr0 hc0;have HB := ZA (Below.refl w.heap.size w);have H := h;clear h;unfold spec_DrawDueCards.f at H;replace H := YJ H;obtain ⟨⟨t102,t105,t106⟩,A2,H⟩ := H;try dsimp only at H
 replace H := YJ H;obtain ⟨⟨t107,t108,t109⟩,A3,H⟩ := H;try dsimp only at H
 simp only [Option.some.injEq,Prod.mk.injEq] at H;obtain ⟨rfl,rfl⟩ := H;go_enter Tryd.func36,Tryd.ntmps36
 go_wp2_with (first|((with_reducible refine gate_dst (N := 7) rfl ?_);refine ZE 7 #[.slice A0 l0.length c0,.int .i64 0,.int .u64 0] 72 ?_;intro gb101 hg w4 hbox hb;have HI101 := ZA ((⟨_,_,hbox,(by rw [hg];exact (SZ HB)),HR0.out⟩ : IsS72 w w4 gb101 l0 0 0));replace HB := BS HB hb;clear hb hbox hg)|((with_reducible refine YG 70 ?_);refine YC (some 9) Tryd.func70 #[.pointer (some ⟨gb101,0,none⟩)] (spec_l1Cur_cards.calls k gb101 l0 0 0 t102 t105 t106 w _ (ZS HI101) (ZJ HB) A2.out) ?_;rintro e w5 ⟨v103,rfl,ho0,hi,hb,hk⟩;refine ⟨_,rfl,?_⟩;have HO104 := ZA (Kd.R_lower ho0 (below_size (ZJ HB)));replace HB := ZA (hb);replace HI101 := ZA (hi))|((with_reducible refine YG 71 ?_);refine YC (some 11) Tryd.func71 #[.pointer (some ⟨gb101,0,none⟩)] (spec_l1Cur_cardDay.calls gb101 l0 t105 t106 t107 t108 t109 w _ (ZS HI101) (ZJ HB) A3.out) ?_;rintro e w6 ⟨rfl,hi,hb,hk⟩;refine ⟨_,rfl,?_⟩;replace HO104 := KRR HI101 HO104 hk;replace HB := ZA (hb);replace HI101 := ZA (hi)))
 go_ret2;exact ⟨_,YR,ZK HO104,ZJ HB⟩
mutual
def impl_DueCards.j0 : Nat -> List (S94) -> Int -> Bool -> Option (List ByteArray × Bool)
 | 0,_,_,_ => none
 | k + 1,x0,x1,x16 => if x16 = true then (some (([] : List ByteArray),false)) else (impl_DueCards.l0 k x1 ([] : List ByteArray) x0 (x0.length : Int) 0)
def impl_DueCards.l0 : Nat -> Int -> List ByteArray -> List (S94) -> Int -> Int -> Option (List ByteArray × Bool)
 | 0,_,_,_,_,_ => none
 | k + 1,x1,x6,x17,x18,x19 => if x19 < x18 then (if 0 <= x19 then (if x19 < (x17.length : Int) then (if ((rd_T94 x17 x19).f2) <= x1 then (if x6.length < 8796093022208 then (impl_DueCards.l0 k x1 (x6 ++ [(rd_T94 x17 x19).f0]) x17 x18 (wrap64 (x19 + 1))) else (none)) else (impl_DueCards.l0 k x1 x6 x17 x18 (wrap64 (x19 + 1)))) else (none)) else (none)) else (some (x6,true))
end
def impl_DueCards.f (k : Nat) (l0 : List (S94)) (a1 : Int) : Option (List ByteArray × Bool) := (impl_AreCards.f k l0).bind fun t101 => (if t101 = true then ((impl_isFrame.f a1).bind fun t102 => (impl_DueCards.j0 k l0 a1 (!t102))) else (impl_DueCards.j0 k l0 a1 true))
set_option maxHeartbeats 3000000 in
set_option maxRecDepth 100000 in
theorem impl_DueCards.calls (k : Nat) (A0 : Option Addr) (c0 : Nat) (l0 : List (S94)) (a1 : Int) (r1 : List ByteArray) (r2 : Bool) (w : World) (hr0 : Kd.C k94 w A0 l0.length l0) (hc0 : l0.length <= c0) (h : impl_DueCards.f k l0 a1 = some (r1,r2)) :
  Calls Tryd.prog 37 #[.slice A0 l0.length c0,.int .i64 a1] w fun e w' => ∃ v0_ : Value,e = .returned (.tuple #[v0_,.bool r2]) ∧ Kd.R Kd.string 9 w' w.heap.size (fun _ => True) v0_ r1 ∧ Below w.heap.size w w' := by
 have hu94 := Tryd.underlying94;have HR0 := ZA hr0;have HC0 := ZA hc0;clear hr0 hc0;have HB := ZA (Below.refl w.heap.size w);have H := h;clear h;unfold impl_DueCards.f at H;have HC3 := ZA H;clear H;go_enter Tryd.func37,Tryd.ntmps37
 go_upto_region 1 with (fail)
 go_cut [16] (fun v16 wc => ∃ (kq : Nat) (x16_2 : Bool),v16 = .bool x16_2 ∧ Aside0 (impl_DueCards.j0 kq l0 a1 x16_2 = some (r1,r2)) ∧ Aside0 (kq <= k) ∧ Aside0 (Below w.heap.size w wc))
 case first =>
  have H := HC3.out;clear HC3;replace H := YJ H;obtain ⟨t101,A4,H⟩ := H;try dsimp only at H
  replace H := YF H;rcases H with ⟨rfl,H⟩|⟨rfl,H⟩;rotate_left
  ·have H' := ZA H;clear H
   go_wp2_with (first|((with_reducible refine YG 41 ?_);refine YC (some 10) Tryd.func41 #[.slice A0 l0.length c0] (impl_AreCards.calls k _ _ l0 false _ (ZR (Kd.C_below HR0.out HB.out)) HC0.out A4.out) ?_;rintro e w8 ⟨rfl,hb⟩;refine ⟨_,rfl,?_⟩;replace HB := BS HB hb))
   go_meet
   case rel => exact ⟨_,(true),ZG,H',⟨YO⟩,⟨ZQ HB⟩⟩
  replace H := YJ H;obtain ⟨t102,A6,H⟩ := H;try dsimp only at H
  have H' := ZA H;clear H
  go_wp2_with (first|((with_reducible refine YG 41 ?_);refine YC (some 10) Tryd.func41 #[.slice A0 l0.length c0] (impl_AreCards.calls k _ _ l0 true _ (ZR (Kd.C_below HR0.out HB.out)) HC0.out A4.out) ?_;rintro e w7 ⟨rfl,hb⟩;refine ⟨_,rfl,?_⟩;replace HB := BS HB hb)|(go_at_call 72;(with_reducible refine (impl_isFrame.calls a1 t102 _ A6.out).mono ?_);rintro e w' ⟨rfl,⟨nd,rfl⟩⟩))
  go_meet
  case rel => exact ⟨_,(!t102),ZG,H',⟨YO⟩,⟨ZQ HB⟩⟩
 case rest =>
  clear HC3;obtain ⟨kq,x16_2,rfl,HA,HJ2,HB⟩ := hcut;cases kq with
  | zero => exact absurd HA.out (by simp [impl_DueCards.j0])
  | succ kj2 =>
   have H := HA.out;clear HA;simp only [impl_DueCards.j0] at H;by_cases c9 : x16_2 = true
   ·subst c9;rw [if_pos rfl] at H;simp only [Option.some.injEq,Prod.mk.injEq] at H;obtain ⟨rfl,rfl⟩ := H;go_wp2;go_ret2;exact ⟨_,YR,by first|exact Kd.R_nil _ _ _ _ _|exact Kd.N_nil _ _ _ _ _|exact Kd.V_nil _ _ _ _ _|exact Kd.Q_nil _ _ _ _ _|exact Kd.S_nil _ _ _ _ _,ZQ HB⟩
   replace c9 := Bool.eq_false_iff.mpr c9;subst c9;rw [if_neg (show ¬ (false = true) by decide)] at H;have H' := ZA H;clear H;go_wp2
   go_loopg [6,19] kj2 (fun kq v6 v19 w' => ∃ (x6_2 : List ByteArray) (x19_2 : Int),v19 = .int .i64 x19_2 ∧ Aside0 (impl_DueCards.l0 kq a1 x6_2 l0 (l0.length : Int) x19_2 = some (r1,r2)) ∧ Aside0 (kq <= kj2) ∧ Aside0 (Kd.R Kd.string 9 w' w.heap.size (fun _ => True) v6 x6_2) ∧ Aside0 (Below w.heap.size w w'))
   case atStart => exact ⟨(([] : List ByteArray)),(0),ZG,H',⟨Nat.le_refl _⟩,⟨by first|exact Kd.R_nil _ _ _ _ _|exact Kd.N_nil _ _ _ _ _|exact Kd.V_nil _ _ _ _ _|exact Kd.Q_nil _ _ _ _ _|exact Kd.S_nil _ _ _ _ _⟩,⟨ZQ HB⟩⟩
   case round =>
    clear H';obtain ⟨x6_2,x19_2,rfl,HA,HK2,HO_6,HB⟩ := hrel;cases gk with
    | zero => exact absurd HA.out (by simp [impl_DueCards.l0])
    | succ k2 =>
     have H := HA.out;clear HA;simp only [impl_DueCards.l0] at H;replace H := YI H;rcases H with ⟨c10b0,H⟩|⟨c10b0,H⟩;rotate_left
     ·simp only [Option.some.injEq,Prod.mk.injEq] at H;obtain ⟨rfl,rfl⟩ := H;go_wp2;go_ret2;exact ⟨_,YR,ZK HO_6,ZQ HB⟩
     replace H := YN H;obtain ⟨c11b0,H⟩ := H;replace H := YN H;obtain ⟨c12b0,H⟩ := H;replace H := YI H;rcases H with ⟨c13b0,H⟩|⟨c13b0,H⟩;rotate_left
     ·have H' := ZA H;clear H;have p103 : 0 <= (x19_2 : Int) := ZD;have q103 : x19_2 < (l0.length : Int) := ZD;obtain ⟨ad103,e103,hx103_0,hx103_1,hx103_2⟩ := at_T94 HR0.out x19_2 p103 q103;cases e103;replace hx103_0 := ZX HB hx103_0;replace hx103_1 := ZX HB hx103_1;replace hx103_2 := ZX HB hx103_2;replace p103 := eq_true p103;replace q103 := eq_true q103
      go_wp2_with (first|((with_reducible refine gate_dst (N := 8) rfl ?_);refine ZE 8 #[.string (⟨#[]⟩ : ByteArray),.int .i64 0,.int .i64 0] 94 ?_;intro gb104 hg w18 hbox hb;replace HO_6 := ZBR HO_6 hb;have BK104 := ZA (hbox);have GW104 := YQ hg HB;have GE104 := YQ hg HB;replace HB := BS HB hb;clear hb hbox hg;have hcz19_0 : w18.cell? ⟨gb104,0,none⟩ = some (.string (⟨#[]⟩ : ByteArray)) := ZC BK104 0 rfl;have hcz19_1 : w18.cell? ⟨gb104,1,none⟩ = some (.int .i64 0) := ZC BK104 1 rfl;have hcz19_2 : w18.cell? ⟨gb104,2,none⟩ = some (.int .i64 0) := ZC BK104 2 rfl;have hfz19_0 := blk_frozen BK104.out 0;have hfz19_1 := blk_frozen BK104.out 1;have hfz19_2 := blk_frozen BK104.out 2))
      go_roundg k2
      case measure => have := HJ2.out;have := HK2.out;omega
      case rel => exact ⟨(x6_2),(wrap64 (x19_2 + 1)),ZG,H',⟨by have := HJ2.out;have := HK2.out;omega⟩,⟨ZK ⟨Kd.R_mono (Kd.R_far (p := ⟨gb104,2,none⟩) (Kd.R_far (p := ⟨gb104,1,none⟩) (Kd.R_far (p := ⟨gb104,0,none⟩) (Kd.R_types HO_6.out BK104.out (by decide)) (fun _ hk => hk.2) (.string ((rd_T94 l0 x19_2).f0))) (fun _ hk => hk.2) (.int .i64 ((rd_T94 l0 x19_2).f1))) (fun _ hk => hk.2) (.int .i64 ((rd_T94 l0 x19_2).f2))) (fun _ hk => trivial)⟩⟩,⟨ZQ HB⟩⟩
     replace H := YM H;obtain ⟨c14,H⟩ := H;have LMc14 := ZA c14;clear c14;obtain ⟨y105,hy105⟩ : ∃ y_ : List ByteArray,y_ = (x6_2 ++ [(rd_T94 l0 x19_2).f0]) := ⟨_,rfl⟩;replace H : (impl_DueCards.l0 k2 a1 y105 l0 (l0.length : Int) (wrap64 (x19_2 + 1))) = some (r1,r2) := YH hy105 H;have Ny105 := ZA hy105;clear hy105;have H' := ZA H;clear H;have p103 : 0 <= (x19_2 : Int) := ZD;have q103 : x19_2 < (l0.length : Int) := ZD;obtain ⟨ad103,e103,hx103_0,hx103_1,hx103_2⟩ := at_T94 HR0.out x19_2 p103 q103;cases e103;replace hx103_0 := ZX HB hx103_0;replace hx103_1 := ZX HB hx103_1;replace hx103_2 := ZX HB hx103_2;replace p103 := eq_true p103;replace q103 := eq_true q103
     go_wp2_with (first|((with_reducible refine gate_dst (N := 8) rfl ?_);refine ZE 8 #[.string (⟨#[]⟩ : ByteArray),.int .i64 0,.int .i64 0] 94 ?_;intro gb104 hg w15 hbox hb;replace HO_6 := ZBR HO_6 hb;have BK104 := ZA (hbox);have GW104 := YQ hg HB;have GE104 := YQ hg HB;replace HB := BS HB hb;clear hb hbox hg;have hcz16_0 : w15.cell? ⟨gb104,0,none⟩ = some (.string (⟨#[]⟩ : ByteArray)) := ZC BK104 0 rfl;have hcz16_1 : w15.cell? ⟨gb104,1,none⟩ = some (.int .i64 0) := ZC BK104 1 rfl;have hcz16_2 : w15.cell? ⟨gb104,2,none⟩ = some (.int .i64 0) := ZC BK104 2 rfl;have hfz16_0 := blk_frozen BK104.out 0;have hfz16_1 := blk_frozen BK104.out 1;have hfz16_2 := blk_frozen BK104.out 2)|((with_reducible refine gate_builtin (b := .append) (xs := #[.tmp 27,.tmp 30]) rfl ?_);at_builtin;refine Kd.R_append Kd.string (w0 := w) w.heap.size rfl (.tmp 27) (.tmp 30) 50 9 (.string ⟨#[]⟩) 16 rfl Tryd.underlying50 info9 rfl (by decide) (by omega) u6 x6_2 ((rd_T94 l0 x19_2).f0) [.string ((rd_T94 l0 x19_2).f0)] (fun _ => True) (fun _ => False) rfl (by first|(go_simp;done)|(go_simp;rfl)) rfl (fun _ hk => hk.elim) (fun _ _ => trivial) (ZK ⟨Kd.R_mono (Kd.R_far (p := ⟨gb104,2,none⟩) (Kd.R_far (p := ⟨gb104,1,none⟩) (Kd.R_far (p := ⟨gb104,0,none⟩) (Kd.R_types HO_6.out BK104.out (by decide)) (fun _ hk => hk.2) (.string ((rd_T94 l0 x19_2).f0))) (fun _ hk => hk.2) (.int .i64 ((rd_T94 l0 x19_2).f1))) (fun _ hk => hk.2) (.int .i64 ((rd_T94 l0 x19_2).f2))) (fun _ hk => trivial)⟩) (ZQ HB) (SZ HB) ?aL ?_;(case aL => have := LMc14.out;omega);intro v106 w17 ho hb hg hat;rw [<- Ny105.out] at ho;replace BK104 := ZA (blk_grown (g := gb104) (o := .cells #[.string ((rd_T94 l0 x19_2).f0),.int .i64 ((rd_T94 l0 x19_2).f1),.int .i64 ((rd_T94 l0 x19_2).f2)] 94 (0,0)) (by refine ZY ?_;refine blk_put (cs := #[.string ((rd_T94 l0 x19_2).f0),.int .i64 ((rd_T94 l0 x19_2).f1),.int .i64 0]) ?_ 2 _ rfl;refine ZY ?_;refine blk_put (cs := #[.string ((rd_T94 l0 x19_2).f0),.int .i64 0,.int .i64 0]) ?_ 1 _ rfl;refine ZY ?_;refine blk_put (cs := #[.string (⟨#[]⟩ : ByteArray),.int .i64 0,.int .i64 0]) ?_ 0 _ rfl;refine ZY ?_;exact BK104.out) hg (Kd.R_ne HO_6.out BK104.out (by decide)));replace HB := ZA (hb);have HO107 := ZA (ho);clear HO_6;clear ho hb hg hat))
     go_roundg k2
     case measure => have := HJ2.out;have := HK2.out;omega
     case rel => exact ⟨(y105),(wrap64 (x19_2 + 1)),ZG,H',⟨by have := HJ2.out;have := HK2.out;omega⟩,⟨ZK HO107⟩,⟨ZQ HB⟩⟩
mutual
def spec_DueCards.j0 : Nat -> List (S94) -> Int -> Bool -> Option (List ByteArray × Bool)
 | 0,_,_,_ => none
 | k + 1,x0,x1,x16 => if x16 = true then (some (([] : List ByteArray),false)) else (spec_DueCards.l0 k x1 ([] : List ByteArray) x0 (x0.length : Int) 0)
def spec_DueCards.l0 : Nat -> Int -> List ByteArray -> List (S94) -> Int -> Int -> Option (List ByteArray × Bool)
 | 0,_,_,_,_,_ => none
 | k + 1,x1,x6,x17,x18,x19 => if x19 < x18 then (if 0 <= x19 then (if x19 < (x17.length : Int) then (if ((rd_T94 x17 x19).f2) <= x1 then (if x6.length < 8796093022208 then (spec_DueCards.l0 k x1 (x6 ++ [(rd_T94 x17 x19).f0]) x17 x18 (wrap64 (x19 + 1))) else (none)) else (spec_DueCards.l0 k x1 x6 x17 x18 (wrap64 (x19 + 1)))) else (none)) else (none)) else (some (x6,true))
end
def spec_DueCards.f (k : Nat) (l0 : List (S94)) (a1 : Int) : Option (List ByteArray × Bool) := (spec_rpGood.f k l0).bind fun t101 => (if t101 = true then ((spec_rpDay.f a1).bind fun t102 => (spec_DueCards.j0 k l0 a1 (!t102))) else (spec_DueCards.j0 k l0 a1 true))
set_option maxHeartbeats 3000000 in
set_option maxRecDepth 100000 in
theorem spec_DueCards.calls (k : Nat) (A0 : Option Addr) (c0 : Nat) (l0 : List (S94)) (a1 : Int) (r1 : List ByteArray) (r2 : Bool) (w : World) (hr0 : Kd.C k94 w A0 l0.length l0) (hc0 : l0.length <= c0) (h : spec_DueCards.f k l0 a1 = some (r1,r2)) :
  Calls Tryd.prog 38 #[.slice A0 l0.length c0,.int .i64 a1] w fun e w' => ∃ v0_ : Value,e = .returned (.tuple #[v0_,.bool r2]) ∧ Kd.R Kd.string 9 w' w.heap.size (fun _ => True) v0_ r1 ∧ Below w.heap.size w w' := by
 have hu94 := Tryd.underlying94;have HR0 := ZA hr0;have HC0 := ZA hc0;clear hr0 hc0;have HB := ZA (Below.refl w.heap.size w);have H := h;clear h;unfold spec_DueCards.f at H;have HC3 := ZA H;clear H;go_enter Tryd.func38,Tryd.ntmps38
 go_upto_region 1 with (fail)
 go_cut [16] (fun v16 wc => ∃ (kq : Nat) (x16_2 : Bool),v16 = .bool x16_2 ∧ Aside0 (spec_DueCards.j0 kq l0 a1 x16_2 = some (r1,r2)) ∧ Aside0 (kq <= k) ∧ Aside0 (Below w.heap.size w wc))
 case first =>
  have H := HC3.out;clear HC3;replace H := YJ H;obtain ⟨t101,A4,H⟩ := H;try dsimp only at H
  replace H := YF H;rcases H with ⟨rfl,H⟩|⟨rfl,H⟩;rotate_left
  ·have H' := ZA H;clear H
   go_wp2_with (first|((with_reducible refine YG 79 ?_);refine YC (some 10) Tryd.func79 #[.slice A0 l0.length c0] (spec_rpGood.calls k _ _ l0 false _ (ZR (Kd.C_below HR0.out HB.out)) HC0.out A4.out) ?_;rintro e w8 ⟨rfl,hb⟩;refine ⟨_,rfl,?_⟩;replace HB := BS HB hb))
   go_meet
   case rel => exact ⟨_,(true),ZG,H',⟨YO⟩,⟨ZQ HB⟩⟩
  replace H := YJ H;obtain ⟨t102,A6,H⟩ := H;try dsimp only at H
  have H' := ZA H;clear H
  go_wp2_with (first|((with_reducible refine YG 79 ?_);refine YC (some 10) Tryd.func79 #[.slice A0 l0.length c0] (spec_rpGood.calls k _ _ l0 true _ (ZR (Kd.C_below HR0.out HB.out)) HC0.out A4.out) ?_;rintro e w7 ⟨rfl,hb⟩;refine ⟨_,rfl,?_⟩;replace HB := BS HB hb)|(go_at_call 80;(with_reducible refine (spec_rpDay.calls a1 t102 _ A6.out).mono ?_);rintro e w' ⟨rfl,⟨nd,rfl⟩⟩))
  go_meet
  case rel => exact ⟨_,(!t102),ZG,H',⟨YO⟩,⟨ZQ HB⟩⟩
 case rest =>
  clear HC3;obtain ⟨kq,x16_2,rfl,HA,HJ2,HB⟩ := hcut;cases kq with
  | zero => exact absurd HA.out (by simp [spec_DueCards.j0])
  | succ kj2 =>
   have H := HA.out;clear HA;simp only [spec_DueCards.j0] at H;by_cases c9 : x16_2 = true
   ·subst c9;rw [if_pos rfl] at H;simp only [Option.some.injEq,Prod.mk.injEq] at H;obtain ⟨rfl,rfl⟩ := H;go_wp2;go_ret2;exact ⟨_,YR,by first|exact Kd.R_nil _ _ _ _ _|exact Kd.N_nil _ _ _ _ _|exact Kd.V_nil _ _ _ _ _|exact Kd.Q_nil _ _ _ _ _|exact Kd.S_nil _ _ _ _ _,ZQ HB⟩
   replace c9 := Bool.eq_false_iff.mpr c9;subst c9;rw [if_neg (show ¬ (false = true) by decide)] at H;have H' := ZA H;clear H;go_wp2
   go_loopg [6,19] kj2 (fun kq v6 v19 w' => ∃ (x6_2 : List ByteArray) (x19_2 : Int),v19 = .int .i64 x19_2 ∧ Aside0 (spec_DueCards.l0 kq a1 x6_2 l0 (l0.length : Int) x19_2 = some (r1,r2)) ∧ Aside0 (kq <= kj2) ∧ Aside0 (Kd.R Kd.string 9 w' w.heap.size (fun _ => True) v6 x6_2) ∧ Aside0 (Below w.heap.size w w'))
   case atStart => exact ⟨(([] : List ByteArray)),(0),ZG,H',⟨Nat.le_refl _⟩,⟨by first|exact Kd.R_nil _ _ _ _ _|exact Kd.N_nil _ _ _ _ _|exact Kd.V_nil _ _ _ _ _|exact Kd.Q_nil _ _ _ _ _|exact Kd.S_nil _ _ _ _ _⟩,⟨ZQ HB⟩⟩
   case round =>
    clear H';obtain ⟨x6_2,x19_2,rfl,HA,HK2,HO_6,HB⟩ := hrel;cases gk with
    | zero => exact absurd HA.out (by simp [spec_DueCards.l0])
    | succ k2 =>
     have H := HA.out;clear HA;simp only [spec_DueCards.l0] at H;replace H := YI H;rcases H with ⟨c10b0,H⟩|⟨c10b0,H⟩;rotate_left
     ·simp only [Option.some.injEq,Prod.mk.injEq] at H;obtain ⟨rfl,rfl⟩ := H;go_wp2;go_ret2;exact ⟨_,YR,ZK HO_6,ZQ HB⟩
     replace H := YN H;obtain ⟨c11b0,H⟩ := H;replace H := YN H;obtain ⟨c12b0,H⟩ := H;replace H := YI H;rcases H with ⟨c13b0,H⟩|⟨c13b0,H⟩;rotate_left
     ·have H' := ZA H;clear H;have p103 : 0 <= (x19_2 : Int) := ZD;have q103 : x19_2 < (l0.length : Int) := ZD;obtain ⟨ad103,e103,hx103_0,hx103_1,hx103_2⟩ := at_T94 HR0.out x19_2 p103 q103;cases e103;replace hx103_0 := ZX HB hx103_0;replace hx103_1 := ZX HB hx103_1;replace hx103_2 := ZX HB hx103_2;replace p103 := eq_true p103;replace q103 := eq_true q103
      go_wp2_with (first|((with_reducible refine gate_dst (N := 8) rfl ?_);refine ZE 8 #[.string (⟨#[]⟩ : ByteArray),.int .i64 0,.int .i64 0] 94 ?_;intro gb104 hg w18 hbox hb;replace HO_6 := ZBR HO_6 hb;have BK104 := ZA (hbox);have GW104 := YQ hg HB;have GE104 := YQ hg HB;replace HB := BS HB hb;clear hb hbox hg;have hcz19_0 : w18.cell? ⟨gb104,0,none⟩ = some (.string (⟨#[]⟩ : ByteArray)) := ZC BK104 0 rfl;have hcz19_1 : w18.cell? ⟨gb104,1,none⟩ = some (.int .i64 0) := ZC BK104 1 rfl;have hcz19_2 : w18.cell? ⟨gb104,2,none⟩ = some (.int .i64 0) := ZC BK104 2 rfl;have hfz19_0 := blk_frozen BK104.out 0;have hfz19_1 := blk_frozen BK104.out 1;have hfz19_2 := blk_frozen BK104.out 2))
      go_roundg k2
      case measure => have := HJ2.out;have := HK2.out;omega
      case rel => exact ⟨(x6_2),(wrap64 (x19_2 + 1)),ZG,H',⟨by have := HJ2.out;have := HK2.out;omega⟩,⟨ZK ⟨Kd.R_mono (Kd.R_far (p := ⟨gb104,2,none⟩) (Kd.R_far (p := ⟨gb104,1,none⟩) (Kd.R_far (p := ⟨gb104,0,none⟩) (Kd.R_types HO_6.out BK104.out (by decide)) (fun _ hk => hk.2) (.string ((rd_T94 l0 x19_2).f0))) (fun _ hk => hk.2) (.int .i64 ((rd_T94 l0 x19_2).f1))) (fun _ hk => hk.2) (.int .i64 ((rd_T94 l0 x19_2).f2))) (fun _ hk => trivial)⟩⟩,⟨ZQ HB⟩⟩
     replace H := YM H;obtain ⟨c14,H⟩ := H;have LMc14 := ZA c14;clear c14;obtain ⟨y105,hy105⟩ : ∃ y_ : List ByteArray,y_ = (x6_2 ++ [(rd_T94 l0 x19_2).f0]) := ⟨_,rfl⟩;replace H : (spec_DueCards.l0 k2 a1 y105 l0 (l0.length : Int) (wrap64 (x19_2 + 1))) = some (r1,r2) := YH hy105 H;have Ny105 := ZA hy105;clear hy105;have H' := ZA H;clear H;have p103 : 0 <= (x19_2 : Int) := ZD;have q103 : x19_2 < (l0.length : Int) := ZD;obtain ⟨ad103,e103,hx103_0,hx103_1,hx103_2⟩ := at_T94 HR0.out x19_2 p103 q103;cases e103;replace hx103_0 := ZX HB hx103_0;replace hx103_1 := ZX HB hx103_1;replace hx103_2 := ZX HB hx103_2;replace p103 := eq_true p103;replace q103 := eq_true q103
     go_wp2_with (first|((with_reducible refine gate_dst (N := 8) rfl ?_);refine ZE 8 #[.string (⟨#[]⟩ : ByteArray),.int .i64 0,.int .i64 0] 94 ?_;intro gb104 hg w15 hbox hb;replace HO_6 := ZBR HO_6 hb;have BK104 := ZA (hbox);have GW104 := YQ hg HB;have GE104 := YQ hg HB;replace HB := BS HB hb;clear hb hbox hg;have hcz16_0 : w15.cell? ⟨gb104,0,none⟩ = some (.string (⟨#[]⟩ : ByteArray)) := ZC BK104 0 rfl;have hcz16_1 : w15.cell? ⟨gb104,1,none⟩ = some (.int .i64 0) := ZC BK104 1 rfl;have hcz16_2 : w15.cell? ⟨gb104,2,none⟩ = some (.int .i64 0) := ZC BK104 2 rfl;have hfz16_0 := blk_frozen BK104.out 0;have hfz16_1 := blk_frozen BK104.out 1;have hfz16_2 := blk_frozen BK104.out 2)|((with_reducible refine gate_builtin (b := .append) (xs := #[.tmp 27,.tmp 30]) rfl ?_);at_builtin;refine Kd.R_append Kd.string (w0 := w) w.heap.size rfl (.tmp 27) (.tmp 30) 50 9 (.string ⟨#[]⟩) 16 rfl Tryd.underlying50 info9 rfl (by decide) (by omega) u6 x6_2 ((rd_T94 l0 x19_2).f0) [.string ((rd_T94 l0 x19_2).f0)] (fun _ => True) (fun _ => False) rfl (by first|(go_simp;done)|(go_simp;rfl)) rfl (fun _ hk => hk.elim) (fun _ _ => trivial) (ZK ⟨Kd.R_mono (Kd.R_far (p := ⟨gb104,2,none⟩) (Kd.R_far (p := ⟨gb104,1,none⟩) (Kd.R_far (p := ⟨gb104,0,none⟩) (Kd.R_types HO_6.out BK104.out (by decide)) (fun _ hk => hk.2) (.string ((rd_T94 l0 x19_2).f0))) (fun _ hk => hk.2) (.int .i64 ((rd_T94 l0 x19_2).f1))) (fun _ hk => hk.2) (.int .i64 ((rd_T94 l0 x19_2).f2))) (fun _ hk => trivial)⟩) (ZQ HB) (SZ HB) ?aL ?_;(case aL => have := LMc14.out;omega);intro v106 w17 ho hb hg hat;rw [<- Ny105.out] at ho;replace BK104 := ZA (blk_grown (g := gb104) (o := .cells #[.string ((rd_T94 l0 x19_2).f0),.int .i64 ((rd_T94 l0 x19_2).f1),.int .i64 ((rd_T94 l0 x19_2).f2)] 94 (0,0)) (by refine ZY ?_;refine blk_put (cs := #[.string ((rd_T94 l0 x19_2).f0),.int .i64 ((rd_T94 l0 x19_2).f1),.int .i64 0]) ?_ 2 _ rfl;refine ZY ?_;refine blk_put (cs := #[.string ((rd_T94 l0 x19_2).f0),.int .i64 0,.int .i64 0]) ?_ 1 _ rfl;refine ZY ?_;refine blk_put (cs := #[.string (⟨#[]⟩ : ByteArray),.int .i64 0,.int .i64 0]) ?_ 0 _ rfl;refine ZY ?_;exact BK104.out) hg (Kd.R_ne HO_6.out BK104.out (by decide)));replace HB := ZA (hb);have HO107 := ZA (ho);clear HO_6;clear ho hb hg hat))
     go_roundg k2
     case measure => have := HJ2.out;have := HK2.out;omega
     case rel => exact ⟨(y105),(wrap64 (x19_2 + 1)),ZG,H',⟨by have := HJ2.out;have := HK2.out;omega⟩,⟨ZK HO107⟩,⟨ZQ HB⟩⟩
def laws_qTexts.l0 : Nat -> List ByteArray -> List ByteArray -> Int -> Int -> Option (Bool)
 | 0,_,_,_,_ => none
 | k + 1,x0,x1,x12,x13 => if x13 < x12 then (if 0 <= x13 then (if x13 < (x0.length : Int) then (if x13 < (x1.length : Int) then (if (rdOf ByteArray.empty x0 x13).toList = (rdOf ByteArray.empty x1 x13).toList then (laws_qTexts.l0 k x0 x1 x12 (wrap64 (x13 + 1))) else (some false)) else (none)) else (none)) else (none)) else (some true)
def laws_qTexts.f (k : Nat) (l0 : List ByteArray) (l1 : List ByteArray) : Option (Bool) := if (l0.length : Int) = (l1.length : Int) then (laws_qTexts.l0 k l0 l1 (l0.length : Int) 0) else (some false)
set_option maxHeartbeats 3000000 in
set_option maxRecDepth 100000 in
theorem laws_qTexts.calls (k : Nat) (A0 : Option Addr) (c0 : Nat) (l0 : List ByteArray) (A1 : Option Addr) (c1 : Nat) (l1 : List ByteArray) (r : Bool) (w : World) (hr0 : Kd.C Kd.string w A0 l0.length l0) (hc0 : l0.length <= c0) (hr1 : Kd.C Kd.string w A1 l1.length l1) (hc1 : l1.length <= c1) (h : laws_qTexts.f k l0 l1 = some r) :
  Calls Tryd.prog 39 #[.slice A0 l0.length c0,.slice A1 l1.length c1] w fun e w' => e = .returned (.bool r) ∧ Drawn0 w w' := by
 have HR0 := ZA hr0;have HC0 := ZA hc0;clear hr0 hc0;have HR1 := ZA hr1;have HC1 := ZA hc1;clear hr1 hc1;have H : (if (l0.length : Int) = (l1.length : Int) then (laws_qTexts.l0 k l0 l1 (l0.length : Int) 0) else (some false)) = some r := h;clear h;by_cases c3 : (l0.length : Int) = (l1.length : Int);rotate_left
 ·rw [if_neg c3] at H;have c3b0 : ((l0.length : Int) == (l1.length : Int)) = false := beq_eq_false_iff_ne.mpr c3;have c3b1 : ((l0.length : Int) != (l1.length : Int)) = true := bne_iff_ne.mpr c3;have c3b2 : (l0.length == l1.length) = false := by first|simpa using c3|(simp at c3 ⊢;omega)
  obtain rfl := Option.some.inj H;go_enter Tryd.func39,Tryd.ntmps39;go_wp2
  repeat (go_quiet (fail);try go_wp2)
  go_ret;exact ⟨by first|rfl|(simp;done)|(simp [*];done),by repeat (first|exact Drawn0.refl _|apply Drawn0.step)⟩
 rw [if_pos c3] at H;have c3b0 : ((l0.length : Int) == (l1.length : Int)) = true := beq_iff_eq.mpr c3;have c3b1 : ((l0.length : Int) != (l1.length : Int)) = false := bne_eq_false_iff_eq.mpr c3;have c3b2 : (l0.length == l1.length) = true := by first|simpa using c3|(simp at c3 ⊢;omega)
 clear c3;have H' := ZA H;clear H;go_enter Tryd.func39,Tryd.ntmps39;go_wp2
 repeat (go_quiet (fail);try go_wp2)
 go_loopg [13] k (fun kq v13 w' => ∃ (x13_1 : Int),v13 = .int .i64 x13_1 ∧ Aside0 (laws_qTexts.l0 kq l0 l1 (l0.length : Int) x13_1 = some r) ∧ Aside0 (kq <= k) ∧ Drawn0 w w')
 case atStart => exact ⟨(0),ZG,H',⟨Nat.le_refl _⟩,by repeat (first|exact Drawn0.refl _|apply Drawn0.step)⟩
 case round =>
  clear H';obtain ⟨x13_1,rfl,HA,HK1,⟨m1,rfl⟩⟩ := hrel;cases gk with
  | zero => exact absurd HA.out (by simp [laws_qTexts.l0])
  | succ k1 =>
   have H := HA.out;clear HA;simp only [laws_qTexts.l0] at H;replace H := YI H;rcases H with ⟨c4b0,H⟩|⟨c4b0,H⟩;rotate_left
   ·obtain rfl := Option.some.inj H;go_wp2
    repeat (go_quiet (fail);try go_wp2)
    go_ret;exact ⟨by first|rfl|(simp;done)|(simp [*];done),by repeat (first|exact Drawn0.refl _|apply Drawn0.step)⟩
   replace H := YN H;obtain ⟨c5b0,H⟩ := H;replace H := YN H;obtain ⟨c6b0,H⟩ := H;replace H := YN H;obtain ⟨c7b0,H⟩ := H;by_cases c8 : (rdOf ByteArray.empty l0 x13_1).toList = (rdOf ByteArray.empty l1 x13_1).toList;rotate_left
   ·rw [if_neg c8] at H;have c8b0 : ((rdOf ByteArray.empty l0 x13_1).toList == (rdOf ByteArray.empty l1 x13_1).toList) = false := beq_eq_false_iff_ne.mpr c8;have c8b1 : ((rdOf ByteArray.empty l0 x13_1).toList != (rdOf ByteArray.empty l1 x13_1).toList) = true := bne_iff_ne.mpr c8;obtain rfl := Option.some.inj H;have p101 : 0 <= (x13_1 : Int) := ZD;have q101 : x13_1 < (l0.length : Int) := ZD;obtain ⟨ad101,e101,hx101_0⟩ := Kd.at_string HR0.out x13_1 p101 q101;cases e101;replace p101 := eq_true p101;replace q101 := eq_true q101;have p102 : 0 <= (x13_1 : Int) := ZD;have q102 : x13_1 < (l1.length : Int) := ZD;obtain ⟨ad102,e102,hx102_0⟩ := Kd.at_string HR1.out x13_1 p102 q102;cases e102;replace p102 := eq_true p102;replace q102 := eq_true q102;go_wp2
    repeat (go_quiet (fail);try go_wp2)
    go_ret;exact ⟨by first|rfl|(simp;done)|(simp [*];done),by repeat (first|exact Drawn0.refl _|apply Drawn0.step)⟩
   rw [if_pos c8] at H;have c8b0 : ((rdOf ByteArray.empty l0 x13_1).toList == (rdOf ByteArray.empty l1 x13_1).toList) = true := beq_iff_eq.mpr c8;have c8b1 : ((rdOf ByteArray.empty l0 x13_1).toList != (rdOf ByteArray.empty l1 x13_1).toList) = false := bne_eq_false_iff_eq.mpr c8;clear c8;have H' := ZA H;clear H;have p101 : 0 <= (x13_1 : Int) := ZD;have q101 : x13_1 < (l0.length : Int) := ZD;obtain ⟨ad101,e101,hx101_0⟩ := Kd.at_string HR0.out x13_1 p101 q101;cases e101;replace p101 := eq_true p101;replace q101 := eq_true q101;have p102 : 0 <= (x13_1 : Int) := ZD;have q102 : x13_1 < (l1.length : Int) := ZD;obtain ⟨ad102,e102,hx102_0⟩ := Kd.at_string HR1.out x13_1 p102 q102;cases e102;replace p102 := eq_true p102;replace q102 := eq_true q102;go_wp2
   repeat (go_quiet (fail);try go_wp2)
   go_roundg k1
   case measure => have := HK1.out;omega
   case rel => exact ⟨(wrap64 (x13_1 + 1)),ZG,H',⟨by have := HK1.out;omega⟩,by repeat (first|exact Drawn0.refl _|apply Drawn0.step)⟩
def laws_qCards.l0 : Nat -> List (S94) -> List (S94) -> Int -> Int -> Option (Bool)
 | 0,_,_,_,_ => none
 | k + 1,x0,x1,x12,x13 => if x13 < x12 then (if 0 <= x13 then (if x13 < (x0.length : Int) then (if x13 < (x1.length : Int) then (if (!((((rd_T94 x0 x13).f0).toList) == (((rd_T94 x1 x13).f0).toList)) || (!(((rd_T94 x0 x13).f1) == ((rd_T94 x1 x13).f1)) || (!(((rd_T94 x0 x13).f2) == ((rd_T94 x1 x13).f2))))) = true then (some false) else (laws_qCards.l0 k x0 x1 x12 (wrap64 (x13 + 1)))) else (none)) else (none)) else (none)) else (some true)
def laws_qCards.f (k : Nat) (l0 : List (S94)) (l1 : List (S94)) : Option (Bool) := if (l0.length : Int) = (l1.length : Int) then (laws_qCards.l0 k l0 l1 (l0.length : Int) 0) else (some false)
set_option maxHeartbeats 3000000 in
set_option maxRecDepth 100000 in
theorem laws_qCards.calls (k : Nat) (A0 : Option Addr) (c0 : Nat) (l0 : List (S94)) (A1 : Option Addr) (c1 : Nat) (l1 : List (S94)) (r : Bool) (w : World) (hr0 : Kd.C k94 w A0 l0.length l0) (hc0 : l0.length <= c0) (hr1 : Kd.C k94 w A1 l1.length l1) (hc1 : l1.length <= c1) (h : laws_qCards.f k l0 l1 = some r) :
  Calls Tryd.prog 40 #[.slice A0 l0.length c0,.slice A1 l1.length c1] w fun e w' => e = .returned (.bool r) ∧ Drawn0 w w' := by
 have hu94 := Tryd.underlying94;have HR0 := ZA hr0;have HC0 := ZA hc0;clear hr0 hc0;have HR1 := ZA hr1;have HC1 := ZA hc1;clear hr1 hc1;have H : (if (l0.length : Int) = (l1.length : Int) then (laws_qCards.l0 k l0 l1 (l0.length : Int) 0) else (some false)) = some r := h;clear h;by_cases c3 : (l0.length : Int) = (l1.length : Int);rotate_left
 ·rw [if_neg c3] at H;have c3b0 : ((l0.length : Int) == (l1.length : Int)) = false := beq_eq_false_iff_ne.mpr c3;have c3b1 : ((l0.length : Int) != (l1.length : Int)) = true := bne_iff_ne.mpr c3;have c3b2 : (l0.length == l1.length) = false := by first|simpa using c3|(simp at c3 ⊢;omega)
  obtain rfl := Option.some.inj H;go_enter Tryd.func40,Tryd.ntmps40;go_wp2
  repeat (go_quiet (fail);try go_wp2)
  go_ret;exact ⟨by first|rfl|(simp;done)|(simp [*];done),by repeat (first|exact Drawn0.refl _|apply Drawn0.step)⟩
 rw [if_pos c3] at H;have c3b0 : ((l0.length : Int) == (l1.length : Int)) = true := beq_iff_eq.mpr c3;have c3b1 : ((l0.length : Int) != (l1.length : Int)) = false := bne_eq_false_iff_eq.mpr c3;have c3b2 : (l0.length == l1.length) = true := by first|simpa using c3|(simp at c3 ⊢;omega)
 clear c3;have H' := ZA H;clear H;go_enter Tryd.func40,Tryd.ntmps40;go_wp2
 repeat (go_quiet (fail);try go_wp2)
 go_loopg [13] k (fun kq v13 w' => ∃ (x13_1 : Int),v13 = .int .i64 x13_1 ∧ Aside0 (laws_qCards.l0 kq l0 l1 (l0.length : Int) x13_1 = some r) ∧ Aside0 (kq <= k) ∧ Drawn0 w w')
 case atStart => exact ⟨(0),ZG,H',⟨Nat.le_refl _⟩,by repeat (first|exact Drawn0.refl _|apply Drawn0.step)⟩
 case round =>
  clear H';obtain ⟨x13_1,rfl,HA,HK1,⟨m1,rfl⟩⟩ := hrel;cases gk with
  | zero => exact absurd HA.out (by simp [laws_qCards.l0])
  | succ k1 =>
   have H := HA.out;clear HA;simp only [laws_qCards.l0] at H;replace H := YI H;rcases H with ⟨c4b0,H⟩|⟨c4b0,H⟩;rotate_left
   ·obtain rfl := Option.some.inj H;go_wp2
    repeat (go_quiet (fail);try go_wp2)
    go_ret;exact ⟨by first|rfl|(simp;done)|(simp [*];done),by repeat (first|exact Drawn0.refl _|apply Drawn0.step)⟩
   replace H := YN H;obtain ⟨c5b0,H⟩ := H;replace H := YN H;obtain ⟨c6b0,H⟩ := H;replace H := YN H;obtain ⟨c7b0,H⟩ := H;by_cases c8 : (!((((rd_T94 l0 x13_1).f0).toList) == (((rd_T94 l1 x13_1).f0).toList)) || (!(((rd_T94 l0 x13_1).f1) == ((rd_T94 l1 x13_1).f1)) || (!(((rd_T94 l0 x13_1).f2) == ((rd_T94 l1 x13_1).f2))))) = true
   ·rw [if_pos c8] at H;have c8b0 : (!((((rd_T94 l0 x13_1).f0).toList) == (((rd_T94 l1 x13_1).f0).toList)) || (!(((rd_T94 l0 x13_1).f1) == ((rd_T94 l1 x13_1).f1)) || (!(((rd_T94 l0 x13_1).f2) == ((rd_T94 l1 x13_1).f2))))) = true := c8;clear c8;obtain rfl := Option.some.inj H;have p101 : 0 <= (x13_1 : Int) := ZD;have q101 : x13_1 < (l0.length : Int) := ZD;obtain ⟨ad101,e101,hx101_0,hx101_1,hx101_2⟩ := at_T94 HR0.out x13_1 p101 q101;cases e101;replace p101 := eq_true p101;replace q101 := eq_true q101;have p102 : 0 <= (x13_1 : Int) := ZD;have q102 : x13_1 < (l1.length : Int) := ZD;obtain ⟨ad102,e102,hx102_0,hx102_1,hx102_2⟩ := at_T94 HR1.out x13_1 p102 q102;cases e102;replace p102 := eq_true p102;replace q102 := eq_true q102;go_wp2
    repeat (go_quiet (fail);try go_wp2)
    go_ret;exact ⟨by first|rfl|(simp;done)|(simp [*];done),by repeat (first|exact Drawn0.refl _|apply Drawn0.step)⟩
   rw [if_neg c8] at H;have c8b0 : (!((((rd_T94 l0 x13_1).f0).toList) == (((rd_T94 l1 x13_1).f0).toList)) || (!(((rd_T94 l0 x13_1).f1) == ((rd_T94 l1 x13_1).f1)) || (!(((rd_T94 l0 x13_1).f2) == ((rd_T94 l1 x13_1).f2))))) = false := by simpa using c8
   clear c8;have H' := ZA H;clear H;have p101 : 0 <= (x13_1 : Int) := ZD;have q101 : x13_1 < (l0.length : Int) := ZD;obtain ⟨ad101,e101,hx101_0,hx101_1,hx101_2⟩ := at_T94 HR0.out x13_1 p101 q101;cases e101;replace p101 := eq_true p101;replace q101 := eq_true q101;have p102 : 0 <= (x13_1 : Int) := ZD;have q102 : x13_1 < (l1.length : Int) := ZD;obtain ⟨ad102,e102,hx102_0,hx102_1,hx102_2⟩ := at_T94 HR1.out x13_1 p102 q102;cases e102;replace p102 := eq_true p102;replace q102 := eq_true q102;go_wp2
   repeat (go_quiet (fail);try go_wp2)
   go_roundg k1
   case measure => have := HK1.out;omega
   case rel => exact ⟨(wrap64 (x13_1 + 1)),ZG,H',⟨by have := HK1.out;omega⟩,by repeat (first|exact Drawn0.refl _|apply Drawn0.step)⟩
def laws_qSay.l0 : Nat -> ByteArray -> List ByteArray -> Int -> Int -> Option (Bool)
 | 0,_,_,_,_ => none
 | k + 1,x1,x7,x8,x9 => if x9 < x8 then (if 0 <= x9 then (if x9 < (x7.length : Int) then (if (rdOf ByteArray.empty x7 x9).toList = x1.toList then (some true) else (laws_qSay.l0 k x1 x7 x8 (wrap64 (x9 + 1)))) else (none)) else (none)) else (some false)
def laws_qSay.f (k : Nat) (l0 : List ByteArray) (a1 : ByteArray) : Option (Bool) := laws_qSay.l0 k a1 l0 (l0.length : Int) 0
set_option maxHeartbeats 3000000 in
set_option maxRecDepth 100000 in
theorem laws_qSay.calls (k : Nat) (A0 : Option Addr) (c0 : Nat) (l0 : List ByteArray) (a1 : ByteArray) (r : Bool) (w : World) (hr0 : Kd.C Kd.string w A0 l0.length l0) (hc0 : l0.length <= c0) (h : laws_qSay.f k l0 a1 = some r) :
  Calls Tryd.prog 42 #[.slice A0 l0.length c0,.string a1] w fun e w' => e = .returned (.bool r) ∧ Drawn0 w w' := by
 have HR0 := ZA hr0;have HC0 := ZA hc0;clear hr0 hc0;have H : (laws_qSay.l0 k a1 l0 (l0.length : Int) 0) = some r := h;clear h;have H' := ZA H;clear H;go_enter Tryd.func42,Tryd.ntmps42;go_wp2
 go_loopg [9] k (fun kq v9 w' => ∃ (x9_1 : Int),v9 = .int .i64 x9_1 ∧ Aside0 (laws_qSay.l0 kq a1 l0 (l0.length : Int) x9_1 = some r) ∧ Aside0 (kq <= k) ∧ Drawn0 w w')
 case atStart => exact ⟨(0),ZG,H',⟨Nat.le_refl _⟩,by repeat (first|exact Drawn0.refl _|apply Drawn0.step)⟩
 case round =>
  clear H';obtain ⟨x9_1,rfl,HA,HK1,⟨m1,rfl⟩⟩ := hrel;cases gk with
  | zero => exact absurd HA.out (by simp [laws_qSay.l0])
  | succ k1 =>
   have H := HA.out;clear HA;simp only [laws_qSay.l0] at H;replace H := YI H;rcases H with ⟨c3b0,H⟩|⟨c3b0,H⟩;rotate_left
   ·obtain rfl := Option.some.inj H;go_wp2;go_ret;exact ⟨by first|rfl|(simp;done)|(simp [*];done),by repeat (first|exact Drawn0.refl _|apply Drawn0.step)⟩
   replace H := YN H;obtain ⟨c4b0,H⟩ := H;replace H := YN H;obtain ⟨c5b0,H⟩ := H;by_cases c6 : (rdOf ByteArray.empty l0 x9_1).toList = a1.toList
   ·rw [if_pos c6] at H;have c6b0 : ((rdOf ByteArray.empty l0 x9_1).toList == a1.toList) = true := beq_iff_eq.mpr c6;have c6b1 : ((rdOf ByteArray.empty l0 x9_1).toList != a1.toList) = false := bne_eq_false_iff_eq.mpr c6;clear c6;obtain rfl := Option.some.inj H;have p101 : 0 <= (x9_1 : Int) := ZD;have q101 : x9_1 < (l0.length : Int) := ZD;obtain ⟨ad101,e101,hx101_0⟩ := Kd.at_string HR0.out x9_1 p101 q101;cases e101;replace p101 := eq_true p101;replace q101 := eq_true q101;go_wp2;go_ret;exact ⟨by first|rfl|(simp;done)|(simp [*];done),by repeat (first|exact Drawn0.refl _|apply Drawn0.step)⟩
   rw [if_neg c6] at H;have c6b0 : ((rdOf ByteArray.empty l0 x9_1).toList == a1.toList) = false := beq_eq_false_iff_ne.mpr c6;have c6b1 : ((rdOf ByteArray.empty l0 x9_1).toList != a1.toList) = true := bne_iff_ne.mpr c6;have H' := ZA H;clear H;have p101 : 0 <= (x9_1 : Int) := ZD;have q101 : x9_1 < (l0.length : Int) := ZD;obtain ⟨ad101,e101,hx101_0⟩ := Kd.at_string HR0.out x9_1 p101 q101;cases e101;replace p101 := eq_true p101;replace q101 := eq_true q101;go_wp2
   go_roundg k1
   case measure => have := HK1.out;omega
   case rel => exact ⟨(wrap64 (x9_1 + 1)),ZG,H',⟨by have := HK1.out;omega⟩,by repeat (first|exact Drawn0.refl _|apply Drawn0.step)⟩
end Go.Proofs.YtkobnljfoedmnaaDoor.Q
