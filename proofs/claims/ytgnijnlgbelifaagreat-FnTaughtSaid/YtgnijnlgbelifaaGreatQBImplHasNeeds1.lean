import Derived.Test.YtgnijnlgbelifaaGreatQBSlicesGrowInt
import Derived.Test.YtgnijnlgbelifaaGreatGUp
import Derived.Test.YtgnijnlgbelifaaGreatQImplAllOfInt
import Derived.Test.YtgnijnlgbelifaaGreatQImplAreWords
import Derived.StillTailTactics
import Derived.Shelf.GgClosure.Gives
import Derived.Lib.OwnBridge
namespace Go.Proofs.YtgnijnlgbelifaaGreat.Q
open Go.RowKit Go.Proofs.YtgnijnlgbelifaaGreatW.PrintWords Go.Proofs.YtgnijnlgbelifaaGreatW.PrintLast Go.Proofs.YtgnijnlgbelifaaGreatW.PrintMore Go.Proofs.YtgnijnlgbelifaaGreatW.GCall
attribute [local go_sem] max2_int min2_int max_two min_two max_three min_three max_four min_four
set_option linter.unusedVariables false
set_option linter.unusedSimpArgs false
def impl_hasNeeds_1.f (k : Nat) (l0 : List Int) (l1 : List Int) : Option Bool := impl_allOf_int.f (fun x => slices_Contains_int.f k l1 x) l0
theorem impl_hasNeeds_1.mono : ∀ a0 a1 k,LeO (impl_hasNeeds_1.f k a0 a1) (impl_hasNeeds_1.f (k + 1) a0 a1) := fun a0 a1 k => Go.Proofs.YtgnijnlgbelifaaGreatW.GIdx.allO_mono (fun x => slices_Contains_int.mono _ _ _) a0
set_option maxHeartbeats 1000000
open Go.RowKit Go.Lib Go.Proofs.YtgnijnlgbelifaaGreatW.PrintWords Go.Proofs.YtgnijnlgbelifaaGreatW.PrintLast Go.Proofs.YtgnijnlgbelifaaGreatW.PrintMore Go.Proofs.YtgnijnlgbelifaaGreatW Go.Proofs.YtgnijnlgbelifaaGreat.Q Go.Proofs.YtgnijnlgbelifaaGreatW.GCall
set_option maxHeartbeats 1000000 in
set_option maxRecDepth 100000 in
theorem impl_hasNeeds_1.calls (k : Nat) (A0 : Option Addr) (c0 : Nat) (l0 : List Int) (A1 : Option Addr) (c1 : Nat) (l1 : List Int) (r : Bool) {gb : Nat} (w : World) (hr0 : Kd.C (Kd.int .i64) w A0 l0.length l0) (hc0 : l0.length <= c0) (hr1 : Kd.C (Kd.int .i64) w A1 l1.length l1) (hc1 : l1.length <= c1) (hbx : w.cell? ⟨gb,0,none⟩ = some (.slice A1 l1.length c1)) (h : impl_hasNeeds_1.f k l0 l1 = some r) :
  Calls Tryz.prog 123 #[.slice A0 l0.length c0,.func (.func 149) #[] #[.pointer (some ⟨gb,0,none⟩)]] w fun e w' => e = .returned (.bool r) ∧ Below w.heap.size w w' := by
 have eg : ∀ args w,(callFunc 149 args).run Tryz.prog w = .ok (.enter 149 args) w := enters_of Tryz.func149 (by kernel_rfl) rfl;refine impl_allOf_int.calls (fun x => slices_Contains_int.f k l1 x) 149 #[.pointer (some ⟨gb,0,none⟩)] eg A0 c0 l0 r w hr0 ?_ h;intro W x b hb hx hp;have hlt : gb < w.heap.size := World.block_lt_of_cell? w _ hbx;have hc : W.cell? ⟨gb,0,none⟩ = some (.slice A1 l1.length c1) := (hb.cell (p := ⟨gb,0,none⟩) hlt).trans hbx;have hcon := slices_Contains_int.calls k A1 c1 l1 x b W (Kd.C_below hr1 hb) hc1 hp;have HC := ZA hcon;have HBB := ZA hb;clear hcon hb hbx hp hr0 hr1 h;show Calls Tryz.prog 149 #[.int .i64 x,.pointer (some ⟨gb,0,none⟩)] W _;go_enter Tryz.func149,Tryz.ntmps149
 go_wp2_with (go_at_call 91;refine (HC.out).mono ?_;rintro e w' ⟨rfl,⟨nd,rfl⟩⟩)
 go_ret;exact ⟨rfl,by repeat (first|exact Below.refl _ _|apply zbB|apply zbA)⟩
def impl_hasNeeds.f (k : Nat) (a0_0 : ByteArray) (l0_1 : List Int) (a0_2 : Int) (l1 : List Int) : Option (Bool) := (impl_hasNeeds_1.f k l0_1 l1).bind fun t103 => (some t103)
theorem impl_hasNeeds.mono : ∀ a0 a1 a2 a3 k,LeO (impl_hasNeeds.f k a0 a1 a2 a3) (impl_hasNeeds.f (k + 1) a0 a1 a2 a3) := by
 intro a0 a1 a2 a3 k;unfold impl_hasNeeds.f
 with_reducible repeat' first|apply impl_hasNeeds_1.mono|apply LeO.refl|apply LeO.none|refine LeO.ite ?_ ?_|refine LeO.bind ?_ (fun _ => ?_)
set_option maxHeartbeats 3000000 in
set_option maxRecDepth 100000 in
theorem impl_hasNeeds.calls (k : Nat) (a0_0 : ByteArray) (A0_1 : Option Addr) (c0_1 : Nat) (l0_1 : List Int) (a0_2 : Int) (A1 : Option Addr) (c1 : Nat) (l1 : List Int) (r : Bool) (w : World) (hr0_1 : Kd.C (Kd.int .i64) w A0_1 l0_1.length l0_1) (hc0_1 : l0_1.length <= c0_1) (hr1 : Kd.C (Kd.int .i64) w A1 l1.length l1) (hc1 : l1.length <= c1) (h : impl_hasNeeds.f k a0_0 l0_1 a0_2 l1 = some r) :
  Calls Tryz.prog 101 #[.agg #[.string a0_0,.slice A0_1 l0_1.length c0_1,.int .i64 a0_2],.slice A1 l1.length c1] w fun e w' => e = .returned (.bool r) ∧ Below w.heap.size w w' := by
 have hu41 := Tryz.underlying41;have HR0_1 := ZA hr0_1;have HC0_1 := ZA hc0_1;clear hr0_1 hc0_1;have HR1 := ZA hr1;have HC1 := ZA hc1;clear hr1 hc1;have HB := ZA (Below.refl w.heap.size w);have H : ((impl_hasNeeds_1.f k l0_1 l1).bind fun t103 => (some t103)) = some r := h;clear h;replace H := YJ H;obtain ⟨t103,A3,H⟩ := H;obtain rfl := Option.some.inj H;go_enter Tryz.func101,Tryz.ntmps101
 go_wp2_with (first|((with_reducible refine gate_dst (N := 2) rfl ?_);refine ZE 2 #[.string a0_0,.slice A0_1 l0_1.length c0_1,.int .i64 a0_2] 41 ?_;intro gb101 hg w4 hbox hb;have BK101 := ZA (hbox);have GW101 := YQ hg HB;have GE101 := YQ hg HB;replace HB := BS HB hb;clear hb hbox hg)|((with_reducible refine gate_dst (N := 3) rfl ?_);refine ZE 3 #[.slice A1 l1.length c1] 28 ?_;intro gb102 hg w5 hbox hb;have BK102 := ZA (hbox);have GW102 := YQ hg HB;have GE102 := YQ hg HB;replace HB := BS HB hb;have NB101_102 := ZA ((by rw [hg];exact Nat.ne_of_lt (blk_lt (g := gb101) (o := .cells #[.string a0_0,.slice A0_1 l0_1.length c0_1,.int .i64 a0_2] 41 (0,0)) (ZH BK101)) : gb101 ≠ gb102));have NB102_101 := ZA ((by rw [hg];exact Nat.ne_of_gt (blk_lt (g := gb101) (o := .cells #[.string a0_0,.slice A0_1 l0_1.length c0_1,.int .i64 a0_2] 41 (0,0)) (ZH BK101)) : gb102 ≠ gb101));replace BK101 := ZA (blk_below (ZH BK101) hb);clear hb hbox hg;have hnb6 := NB101_102.out;have hnc6 := NB102_101.out;have hcz7_0 : w5.cell? ⟨gb101,0,none⟩ = some (.string a0_0) := ZC BK101 0 rfl;have hcz7_1 : w5.cell? ⟨gb101,1,none⟩ = some (.slice A0_1 l0_1.length c0_1) := ZC BK101 1 rfl;have hcz7_2 : w5.cell? ⟨gb101,2,none⟩ = some (.int .i64 a0_2) := ZC BK101 2 rfl;have hfz7_0 := blk_frozen BK101.out 0;have hfz7_1 := blk_frozen BK101.out 1;have hfz7_2 := blk_frozen BK101.out 2)|((with_reducible refine gate_callee (f := 123) rfl ?_);refine goesL_ (some 8) rfl rfl Tryz.func123 (by kernel_rfl) rfl #[.slice A0_1 l0_1.length c0_1,.func (.func 149) #[] #[.pointer (some ⟨gb102,0,none⟩)]] rfl (by (try simp only [List.map_toArray,List.map_cons,List.map_nil]);first|done|rfl|(simp only [List.length_drop,List.length_take];rfl)) ?_;(with_reducible refine (impl_hasNeeds_1.calls k _ _ l0_1 A1 c1 l1 t103 _ (ZR (Kd.C_below HR0_1.out HB.out)) HC0_1.out (ZR (Kd.C_below HR1.out HB.out)) HC1.out ((blk_cell (cs := #[.slice A1 l1.length c1]) (t := 28) (ZH BK102) 0).trans rfl) A3.out).mono ?_);rintro e w8 ⟨rfl,hb⟩;refine ⟨_,rfl,?_⟩;replace BK101 := ZA (blk_below (ZH BK101) hb);replace BK102 := ZA (blk_below (ZH BK102) hb);replace HB := BS HB hb))
 go_ret;exact ⟨YR,ZQ HB⟩
def impl_areLessons_1.f (k : Nat) (l0 : List Int) (l1 : List S41) (l2 : List Int) : Option Bool := impl_allOf_int.f (fun x => if 0 <= x then (if x < (l1.length : Int) then impl_hasNeeds.f k (rd_T41 l1 x).f0 (rd_T41 l1 x).f1 (rd_T41 l1 x).f2 l2 else none) else none) l0
set_option maxHeartbeats 1000000
open Go.RowKit Go.Lib Go.Proofs.YtgnijnlgbelifaaGreatW.PrintWords Go.Proofs.YtgnijnlgbelifaaGreatW.PrintLast Go.Proofs.YtgnijnlgbelifaaGreatW.PrintMore Go.Proofs.YtgnijnlgbelifaaGreatW Go.Proofs.YtgnijnlgbelifaaGreat.Q Go.Proofs.YtgnijnlgbelifaaGreatW.GCall
set_option maxHeartbeats 1000000 in
set_option maxRecDepth 100000 in
theorem impl_areLessons_1.calls (k : Nat) (A0 : Option Addr) (c0 : Nat) (l0 : List Int) (A1 : Option Addr) (c1 : Nat) (l1 : List S41) (A2 : Option Addr) (c2 : Nat) (l2 : List Int) (r : Bool) {gb gb2 : Nat} (w : World) (hr0 : Kd.C (Kd.int .i64) w A0 l0.length l0) (hc0 : l0.length <= c0) (hr1 : Kd.C k41 w A1 l1.length l1) (hc1 : l1.length <= c1) (hr2 : Kd.C (Kd.int .i64) w A2 l2.length l2) (hc2 : l2.length <= c2) (hbx : w.cell? ⟨gb,0,none⟩ = some (.slice A1 l1.length c1)) (hbx2 : w.cell? ⟨gb2,0,none⟩ = some (.slice A2 l2.length c2)) (h : impl_areLessons_1.f k l0 l1 l2 = some r) :
  Calls Tryz.prog 123 #[.slice A0 l0.length c0,.func (.func 147) #[] #[.pointer (some ⟨gb,0,none⟩),.pointer (some ⟨gb2,0,none⟩)]] w fun e w' => e = .returned (.bool r) ∧ Below w.heap.size w w' := by
 have eg : ∀ args w,(callFunc 147 args).run Tryz.prog w = .ok (.enter 147 args) w := enters_of Tryz.func147 (by kernel_rfl) rfl;refine impl_allOf_int.calls (fun x => if 0 <= x then (if x < (l1.length : Int) then impl_hasNeeds.f k (rd_T41 l1 x).f0 (rd_T41 l1 x).f1 (rd_T41 l1 x).f2 l2 else none) else none) 147 #[.pointer (some ⟨gb,0,none⟩),.pointer (some ⟨gb2,0,none⟩)] eg A0 c0 l0 r w hr0 ?_ h;intro W x b hb hx hp;have hlt : gb < w.heap.size := World.block_lt_of_cell? w _ hbx;have hlt2 : gb2 < w.heap.size := World.block_lt_of_cell? w _ hbx2;have hcA : W.cell? ⟨gb,0,none⟩ = some (.slice A1 l1.length c1) := (hb.cell (p := ⟨gb,0,none⟩) hlt).trans hbx;have hcB : W.cell? ⟨gb2,0,none⟩ = some (.slice A2 l2.length c2) := (hb.cell (p := ⟨gb2,0,none⟩) hlt2).trans hbx2
 split at hp
 ·rename_i p101
  split at hp
  ·rename_i q101
   obtain ⟨ad101,A101_1,c101_1,e101,hx101_0,hx101_1,hx101_2,hl101_1,hi101_1⟩ := at_T41 (Kd.C_below hr1 hb) x p101 q101;cases e101;have hcon := fun W' (hW : Below W.heap.size W W') => (impl_hasNeeds.calls k (rd_T41 l1 x).f0 A101_1 c101_1 (rd_T41 l1 x).f1 (rd_T41 l1 x).f2 A2 c2 l2 b W' (Kd.C_below hi101_1 hW) hl101_1 (Kd.C_below (Kd.C_below hr2 hb) hW) hc2 hp).mono (fun e w' h_ => (⟨h_.1,hW.trans (h_.2.mono hW.size)⟩ : e = .returned (.bool b) ∧ Below W.heap.size W w'))
   have HC := ZA hcon;have hu := Tryz.underlying41;have p1 := eq_true p101;have q1 := eq_true q101;clear hcon hb hbx hbx2 hp hr0 hr1 hr2 h hi101_1;generalize (rd_T41 l1 x).f0 = y0 at hx101_0 HC;generalize (rd_T41 l1 x).f2 = y2 at hx101_2 HC;generalize (rd_T41 l1 x).f1 = y1 at hx101_1 HC hl101_1;show Calls Tryz.prog 147 #[.int .i64 x,.pointer (some ⟨gb,0,none⟩),.pointer (some ⟨gb2,0,none⟩)] W _;go_enter Tryz.func147,Tryz.ntmps147;go_wp2
   go_still_tail 5,(by kernel_rfl)
   change wpList _ _ _ _ _ W.drew;have HBB := ZA (below_drew1 (Below.refl W.heap.size W));generalize W.drew = w2 at *
   go_wp2_with (go_at_call 101;refine (HC.out _ HBB.out).mono ?_;rintro e w' ⟨rfl,hb'⟩)
   go_ret;exact ⟨rfl,hb'⟩
  cases hp
 cases hp
mutual
def impl_areLessons.j0 : Nat -> List (List Int) -> Bool -> List (S41) -> Option (Bool)
 | 0,_,_,_ => none
 | k + 1,x1,x31,x102000 => if x31 = true then (some false) else (impl_areLessons.l0 k x1 x1 (x1.length : Int) 0 x102000)
def impl_areLessons.l0 : Nat -> List (List Int) -> List (List Int) -> Int -> Int -> List (S41) -> Option (Bool)
 | 0,_,_,_,_,_ => none
 | k + 1,x1,x32,x33,x34,x102000 => if x34 < x33 then (if 0 <= x34 then (if x34 < (x32.length : Int) then (if x34 <= (x1.length : Int) then ((slices_Concat_int.f k (x1.take (x34 : Int).toNat)).bind fun t114 => (if ((rd_L2 x32 x34).length : Int) = 0 then (some false) else ((impl_areLessons_1.f k (rd_L2 x32 x34) x102000 t114).bind fun t118 => (if t118 = true then (impl_areLessons.l0 k x1 x32 x33 (wrap64 (x34 + 1)) x102000) else (some false))))) else (none)) else (none)) else (none)) else (some true)
end
def impl_areLessons.f (k : Nat) (l0 : List (S41)) (l1 : List (List Int)) : Option (Bool) := (slices_Concat_int.f k l1).bind fun t102 => (if (t102.length : Int) = (l0.length : Int) then ((impl_allWithin.f t102 0 (wrap64 ((l0.length : Int) - 1))).bind fun t105 => (if t105 = true then ((impl_distinct_int.f t102).bind fun t106 => (impl_areLessons.j0 k l1 ((t106.length : Int) != (t102.length : Int)) l0)) else (impl_areLessons.j0 k l1 true l0))) else (impl_areLessons.j0 k l1 true l0))
set_option maxHeartbeats 3000000 in
set_option maxRecDepth 100000 in
theorem impl_areLessons.calls (k : Nat) (A0 : Option Addr) (c0 : Nat) (l0 : List (S41)) (A1 : Option Addr) (c1 : Nat) (l1 : List (List Int)) (r : Bool) (w : World) (hr0 : Kd.C k41 w A0 l0.length l0) (hc0 : l0.length <= c0) (hr1 : Kd.C (Kd.slice 3 (Kd.int .i64)) w A1 l1.length l1) (hc1 : l1.length <= c1) (h : impl_areLessons.f k l0 l1 = some r) :
  Calls Tryz.prog 99 #[.slice A0 l0.length c0,.slice A1 l1.length c1] w fun e w' => e = .returned (.bool r) ∧ Below w.heap.size w w' := by
 have HR0 := ZA hr0;have HC0 := ZA hc0;clear hr0 hc0;have HR1 := ZA hr1;have HC1 := ZA hc1;clear hr1 hc1;have HB := ZA (Below.refl w.heap.size w);have H := h;clear h;unfold impl_areLessons.f at H;replace H := YJ H;obtain ⟨t102,A3,H⟩ := H;have HC4 := ZA H;clear H;go_enter Tryz.func99,Tryz.ntmps99
 go_upto_region 2 with (first|((with_reducible refine gate_dst (N := 2) rfl ?_);(try (refine gate_guard (by rfl) ?_;dsimp only));refine ZE 2 #[.slice A0 l0.length c0] 24 ?_;intro gb101 hg w5 hbox hb;have BK101 := ZA (hbox);have GW101 := YQ hg HB;have GE101 := YQ hg HB;replace HB := BS HB hb;clear hb hbox hg)|((with_reducible refine YG 86 ?_);refine YC (some 10) Tryz.func86 #[.slice A1 l1.length c1] (slices_Concat_int.calls k _ _ l1 t102 _ (ZR (Kd.C_below HR1.out HB.out)) HC1.out A3.out) ?_;rintro e w6 ⟨v103,rfl,ho0,hb⟩;refine ⟨_,rfl,?_⟩;have HO104 := ZA (Kd.R_lower ho0 (SZ HB));replace BK101 := ZA (blk_below (ZH BK101) hb);replace HB := BS HB hb))
 (try simp only [Act.put,zuA,zuB,zuC])
 go_cut [31] (fun v31 wc => ∃ (kq : Nat) (x31_3 : Bool),v31 = .bool x31_3 ∧ Aside0 (impl_areLessons.j0 kq l1 x31_3 l0 = some r) ∧ Aside0 (kq <= k) ∧ Aside0 (wc.heap[gb101]? = some (.cells #[(.slice A0 l0.length c0)] 24 (0,0))) ∧ Aside0 (Below w.heap.size w wc))
 case first =>
  have H := HC4.out;clear HC4;by_cases c7 : (t102.length : Int) = (l0.length : Int);rotate_left
  ·rw [if_neg c7] at H;have c7b0 : ((t102.length : Int) == (l0.length : Int)) = false := beq_eq_false_iff_ne.mpr c7;have c7b1 : ((t102.length : Int) != (l0.length : Int)) = true := bne_iff_ne.mpr c7;have c7b2 : (t102.length == l0.length) = false := by first|simpa using c7|(simp at c7 ⊢;omega)
   (first|rw [c7b0]|rw [c7b1]|(simp only [i64_w,i32_w];rw [c7b0])|skip)
   have H' := ZA H;clear H;obtain ⟨Ao19,co19,eo19⟩ := Kd.R_slice HO104.out;subst eo19;have hcz20_0 : w6.cell? ⟨gb101,0,none⟩ = some (.slice A0 l0.length c0) := ZC BK101 0 rfl;have hfz20_0 := blk_frozen BK101.out 0;go_wp2;go_meet
   case rel => exact ⟨_,(true),ZG,H',⟨YO⟩,⟨ZH BK101⟩,⟨ZQ HB⟩⟩
  rw [if_pos c7] at H;have c7b0 : ((t102.length : Int) == (l0.length : Int)) = true := beq_iff_eq.mpr c7;have c7b1 : ((t102.length : Int) != (l0.length : Int)) = false := bne_eq_false_iff_eq.mpr c7;have c7b2 : (t102.length == l0.length) = true := by first|simpa using c7|(simp at c7 ⊢;omega)
  clear c7
  (first|rw [c7b0]|rw [c7b1]|(simp only [i64_w,i32_w];rw [c7b0])|skip)
  replace H := YJ H;obtain ⟨t105,A8,H⟩ := H;replace H := YF H;rcases H with ⟨rfl,H⟩|⟨rfl,H⟩;rotate_left
  ·have H' := ZA H;clear H;obtain ⟨Ao16,co16,eo16⟩ := Kd.R_slice HO104.out;subst eo16;have hcz17_0 : w6.cell? ⟨gb101,0,none⟩ = some (.slice A0 l0.length c0) := ZC BK101 0 rfl;have hfz17_0 := blk_frozen BK101.out 0
   go_wp2_with (first|(go_at_call 74;(with_reducible refine (impl_allWithin.calls _ _ t102 0 (wrap64 ((l0.length : Int) - 1)) false _ (WR HO104) (CR HO104) A8.out).mono ?_);rintro e w18 ⟨rfl,hb⟩;replace HO104 := ZBR HO104 hb;replace BK101 := ZA (blk_below (ZH BK101) hb);replace HB := BS HB hb))
   go_meet
   case rel => exact ⟨_,(true),ZG,H',⟨YO⟩,⟨ZH BK101⟩,⟨ZQ HB⟩⟩
  replace H := YJ H;obtain ⟨t106,A10,H⟩ := H;have H' := ZA H;clear H;obtain ⟨Ao11,co11,eo11⟩ := Kd.R_slice HO104.out;subst eo11;have hcz12_0 : w6.cell? ⟨gb101,0,none⟩ = some (.slice A0 l0.length c0) := ZC BK101 0 rfl;have hfz12_0 := blk_frozen BK101.out 0
  go_wp2_with (first|(go_at_call 74;(with_reducible refine (impl_allWithin.calls _ _ t102 0 (wrap64 ((l0.length : Int) - 1)) true _ (WR HO104) (CR HO104) A8.out).mono ?_);rintro e w13 ⟨rfl,hb⟩;replace HO104 := ZBR HO104 hb;replace BK101 := ZA (blk_below (ZH BK101) hb);replace HB := BS HB hb)|(go_at_call 100;(with_reducible refine (impl_distinct_int.calls _ _ t102 t106 _ (WR HO104) (CR HO104) A10.out).mono ?_);rintro e w14 ⟨v107,rfl,ho0,hb⟩;have HO108 := ZA (Kd.R_lower (Kd.R_new' ho0 (Kd.R_lt (ZK HO104))) (SZ HB));replace HO104 := ZA (Kd.R_elder' (ZK HO104) (Kd.R_base ho0) hb);replace BK101 := ZA (blk_below (ZH BK101) hb);replace HB := BS HB hb;obtain ⟨Ao15,co15,eo15⟩ := Kd.R_slice HO108.out;subst eo15))
  go_meet
  case rel => exact ⟨_,(((t106.length : Int) != (t102.length : Int))),ZG,H',⟨YO⟩,⟨ZH BK101⟩,⟨ZQ HB⟩⟩
 case rest =>
  clear HC4;obtain ⟨kq,x31_3,rfl,HA,HJ3,BK101,HB⟩ := hcut;cases kq with
  | zero => exact absurd HA.out (by simp [impl_areLessons.j0])
  | succ kj3 =>
   have H := HA.out;clear HA;simp only [impl_areLessons.j0] at H;by_cases c21 : x31_3 = true
   ·subst c21;rw [if_pos rfl] at H;obtain rfl := Option.some.inj H;go_wp2;go_ret;exact ⟨YR,ZQ HB⟩
   replace c21 := Bool.eq_false_iff.mpr c21;subst c21;rw [if_neg (show ¬ (false = true) by decide)] at H;have H' := ZA H;clear H;go_wp2
   go_loopg [34] kj3 (fun kq v34 w' => ∃ (x34_2 : Int),v34 = .int .i64 x34_2 ∧ Aside0 (impl_areLessons.l0 kq l1 l1 (l1.length : Int) x34_2 l0 = some r) ∧ Aside0 (kq <= kj3) ∧ Aside0 (w'.heap[gb101]? = some (.cells #[(.slice A0 l0.length c0)] 24 (0,0))) ∧ Aside0 (Below w.heap.size w w'))
   case atStart => exact ⟨(0),ZG,H',⟨Nat.le_refl _⟩,⟨ZH BK101⟩,⟨ZQ HB⟩⟩
   case round =>
    clear H';obtain ⟨x34_2,rfl,HA,HK2,BK101,HB⟩ := hrel;cases gk with
    | zero => exact absurd HA.out (by simp [impl_areLessons.l0])
    | succ k2 =>
     have H := HA.out;clear HA;simp only [impl_areLessons.l0] at H;replace H := YI H;rcases H with ⟨c22b0,H⟩|⟨c22b0,H⟩;rotate_left
     ·obtain rfl := Option.some.inj H;go_wp2;go_ret;exact ⟨YR,ZQ HB⟩
     replace H := YN H;obtain ⟨c23b0,H⟩ := H;replace H := YN H;obtain ⟨c24b0,H⟩ := H;have c25b0 := eq_true (ZD : 0 <= x34_2);replace H := YM H;obtain ⟨c26,H⟩ := H;have c26b0 := eq_true c26;have c26b1 := decide_eq_true c26;clear c26;obtain ⟨y110,hy110⟩ : ∃ y_ : List (List Int),y_ = (l1.take (x34_2 : Int).toNat) := ⟨_,rfl⟩;replace H : ((slices_Concat_int.f k2 y110).bind fun t114 => (if ((rd_L2 l1 x34_2).length : Int) = 0 then (some false) else ((impl_areLessons_1.f k2 (rd_L2 l1 x34_2) l0 t114).bind fun t118 => (if t118 = true then (impl_areLessons.l0 k2 l1 l1 (l1.length : Int) (wrap64 (x34_2 + 1)) l0) else (some false))))) = some r := YH hy110 H;have Ny110 := ZA hy110;clear hy110;replace H := YJ H;obtain ⟨t114,A27,H⟩ := H;by_cases c28 : ((rd_L2 l1 x34_2).length : Int) = 0
     ·rw [if_pos c28] at H;have c28b0 : (((rd_L2 l1 x34_2).length : Int) == 0) = true := beq_iff_eq.mpr c28;have c28b1 : (((rd_L2 l1 x34_2).length : Int) != 0) = false := bne_eq_false_iff_eq.mpr c28;clear c28;obtain rfl := Option.some.inj H;have p109 : 0 <= (x34_2 : Int) := ZD;have q109 : x34_2 < (l1.length : Int) := ZD;obtain ⟨ad109,A109_0,c109_0,e109,hx109_0,hl109_0,hi109_0⟩ := at_L2 HR1.out x34_2 p109 q109;cases e109;replace hx109_0 := ZX HB hx109_0;have HR109_0 := ZA hi109_0;have HC109_0 := ZA hl109_0;clear hi109_0 hl109_0;replace p109 := eq_true p109;replace q109 := eq_true q109;have q29 : (x34_2 : Int) <= ((l1.length : Int) : Int) := ZD;obtain ⟨i029,hi029,_,hsz29,_⟩ := info_parts info28;have hroom29 : l1.length <= c1 := HC1.out;have hC29 : Kd.C (Kd.slice 3 (Kd.int .i64)) _ (some ad109) l1.length l1 := HR1.out;have hcut29 := cut_to (P := Tryz.prog) 25 28 .i64 Tryz.underlying25 hi029 (some ad109) l1.length c1 x34_2 ZD q29 hroom29;have hr29 := Kd.C_take (m := (x34_2 : Int).toNat) hC29 (by omega);have hy29 : y110.length = (x34_2 : Int).toNat := (by rw [Ny110.out,List.length_take];omega);rw [<- Ny110.out] at hr29;rw [<- hy29] at hcut29;have HR113 := ZA hr29;have HC113 := ZA (show y110.length <= c1 from by omega);clear hr29 hC29 hroom29 hi029 hsz29;have KY29 := ZA hy29;clear hy29;replace q29 := eq_true q29
      go_wp2_with (first|((with_reducible refine YG 86 ?_);refine YC (some 42) Tryz.func86 #[.slice (some ad109) y110.length c1] (slices_Concat_int.calls k2 _ _ y110 t114 _ (ZR (Kd.C_below HR113.out HB.out)) HC113.out A27.out) ?_;rintro e w30 ⟨v115,rfl,ho0,hb⟩;refine ⟨_,rfl,?_⟩;have HO116 := ZA (Kd.R_lower ho0 (SZ HB));replace BK101 := ZA (blk_below (ZH BK101) hb);replace HB := BS HB hb)|((with_reducible refine gate_dst (N := 8) rfl ?_);(try (refine gate_guard (by rfl) ?_;dsimp only));refine ZE 8 #[.slice none 0 0] 28 ?_;intro gb117 hg w31 hbox hb;replace HO116 := ZBR HO116 hb;have BK117 := ZA (hbox);have GW117 := YQ hg HB;have GE117 := YQ hg HB;replace HB := BS HB hb;have NB101_117 := ZA ((by rw [hg];exact Nat.ne_of_lt (blk_lt (g := gb101) (o := .cells #[.slice A0 l0.length c0] 24 (0,0)) (ZH BK101)) : gb101 ≠ gb117));have NB117_101 := ZA ((by rw [hg];exact Nat.ne_of_gt (blk_lt (g := gb101) (o := .cells #[.slice A0 l0.length c0] 24 (0,0)) (ZH BK101)) : gb117 ≠ gb101));replace BK101 := ZA (blk_below (ZH BK101) hb);clear hb hbox hg;obtain ⟨Ao32,co32,eo32⟩ := Kd.R_slice HO116.out;subst eo32;have hnb33 := NB117_101.out;have hnc33 := NB101_117.out;have hcz34_0 : w31.cell? ⟨gb117,0,none⟩ = some (.slice none 0 0) := ZC BK117 0 rfl;have hfz34_0 := blk_frozen BK117.out 0))
      go_ret;exact ⟨YR,ZQ HB⟩
     rw [if_neg c28] at H;have c28b0 : (((rd_L2 l1 x34_2).length : Int) == 0) = false := beq_eq_false_iff_ne.mpr c28;have c28b1 : (((rd_L2 l1 x34_2).length : Int) != 0) = true := bne_iff_ne.mpr c28;have c28b2 : ¬ ((rd_L2 l1 x34_2) = []) := fun h_ => c28 (by rw [h_];rfl)
     replace H := YJ H;obtain ⟨t118,A35,H⟩ := H;replace H := YF H;rcases H with ⟨rfl,H⟩|⟨rfl,H⟩;rotate_left
     ·obtain rfl := Option.some.inj H;have p109 : 0 <= (x34_2 : Int) := ZD;have q109 : x34_2 < (l1.length : Int) := ZD;obtain ⟨ad109,A109_0,c109_0,e109,hx109_0,hl109_0,hi109_0⟩ := at_L2 HR1.out x34_2 p109 q109;cases e109;replace hx109_0 := ZX HB hx109_0;have HR109_0 := ZA hi109_0;have HC109_0 := ZA hl109_0;clear hi109_0 hl109_0;replace p109 := eq_true p109;replace q109 := eq_true q109;have q44 : (x34_2 : Int) <= ((l1.length : Int) : Int) := ZD;obtain ⟨i044,hi044,_,hsz44,_⟩ := info_parts info28;have hroom44 : l1.length <= c1 := HC1.out;have hC44 : Kd.C (Kd.slice 3 (Kd.int .i64)) _ (some ad109) l1.length l1 := HR1.out;have hcut44 := cut_to (P := Tryz.prog) 25 28 .i64 Tryz.underlying25 hi044 (some ad109) l1.length c1 x34_2 ZD q44 hroom44;have hr44 := Kd.C_take (m := (x34_2 : Int).toNat) hC44 (by omega);have hy44 : y110.length = (x34_2 : Int).toNat := (by rw [Ny110.out,List.length_take];omega);rw [<- Ny110.out] at hr44;rw [<- hy44] at hcut44;have HR113 := ZA hr44;have HC113 := ZA (show y110.length <= c1 from by omega);clear hr44 hC44 hroom44 hi044 hsz44;have KY44 := ZA hy44;clear hy44;replace q44 := eq_true q44
      go_wp2_with (first|((with_reducible refine YG 86 ?_);refine YC (some 42) Tryz.func86 #[.slice (some ad109) y110.length c1] (slices_Concat_int.calls k2 _ _ y110 t114 _ (ZR (Kd.C_below HR113.out HB.out)) HC113.out A27.out) ?_;rintro e w45 ⟨v115,rfl,ho0,hb⟩;refine ⟨_,rfl,?_⟩;have HO116 := ZA (Kd.R_lower ho0 (SZ HB));replace BK101 := ZA (blk_below (ZH BK101) hb);replace HB := BS HB hb)|((with_reducible refine gate_dst (N := 8) rfl ?_);(try (refine gate_guard (by rfl) ?_;dsimp only));refine ZE 8 #[.slice none 0 0] 28 ?_;intro gb117 hg w46 hbox hb;replace HO116 := ZBR HO116 hb;have BK117 := ZA (hbox);have GW117 := YQ hg HB;have GE117 := YQ hg HB;replace HB := BS HB hb;have NB101_117 := ZA ((by rw [hg];exact Nat.ne_of_lt (blk_lt (g := gb101) (o := .cells #[.slice A0 l0.length c0] 24 (0,0)) (ZH BK101)) : gb101 ≠ gb117));have NB117_101 := ZA ((by rw [hg];exact Nat.ne_of_gt (blk_lt (g := gb101) (o := .cells #[.slice A0 l0.length c0] 24 (0,0)) (ZH BK101)) : gb117 ≠ gb101));replace BK101 := ZA (blk_below (ZH BK101) hb);clear hb hbox hg;obtain ⟨Ao47,co47,eo47⟩ := Kd.R_slice HO116.out;subst eo47;have hnb48 := NB117_101.out;have hnc48 := NB101_117.out;have hcz49_0 : w46.cell? ⟨gb117,0,none⟩ = some (.slice none 0 0) := ZC BK117 0 rfl;have hfz49_0 := blk_frozen BK117.out 0)|(go_at_call 123;(with_reducible refine (impl_areLessons_1.calls k2 _ _ (rd_L2 l1 x34_2) A0 c0 l0 Ao47 co47 t114 false _ (Kd.C_below HR109_0.out (ZQ HB)) HC109_0.out (Kd.C_below HR0.out (ZQ HB)) HC0.out ?side5 (CR HO116) ?side7 ?side8 A35.out).mono ?_);(case side5 => refine (Kd.R_reads' (e := 3) (base := w.heap.size) (ok := fun k_ => True) (n := t114.length) (c := co47) ?_).2.2;exact (ZK ⟨(Kd.R_mono (Kd.R_far (p := ⟨gb117,0,none⟩) (Kd.R_types HO116.out BK117.out (by decide)) (fun _ hk => hk.2) (.slice Ao47 t114.length co47)) (fun _ h_ => h_.1))⟩));(case side7 => exact (blk_cell (cs := #[.slice A0 l0.length c0]) (t := 24) (by refine ZY ?_;refine blk_far ?_ NB101_117.out _;refine ZY ?_;exact BK101.out) 0).trans rfl);(case side8 => exact (blk_cell (cs := #[.slice Ao47 t114.length co47]) (t := 28) (by refine ZY ?_;refine blk_put (cs := #[.slice none 0 0]) ?_ 0 _ rfl;refine ZY ?_;exact BK117.out) 0).trans rfl);rintro e w50 ⟨rfl,hb⟩;replace HO116 := ZA (Kd.R_below (ZK ⟨(Kd.R_mono (Kd.R_far (p := ⟨gb117,0,none⟩) (Kd.R_types HO116.out BK117.out (by decide)) (fun _ hk => hk.2) (.slice Ao47 t114.length co47)) (fun _ h_ => h_.1))⟩) hb);replace BK101 := ZA (blk_below (g := gb101) (o := .cells #[.slice A0 l0.length c0] 24 (0,0)) (by refine ZY ?_;refine blk_far ?_ NB101_117.out _;refine ZY ?_;exact BK101.out) hb);replace BK117 := ZA (blk_below (g := gb117) (o := .cells #[.slice Ao47 t114.length co47] 28 (0,0)) (by refine ZY ?_;refine blk_put (cs := #[.slice none 0 0]) ?_ 0 _ rfl;refine ZY ?_;exact BK117.out) hb);replace HB := BS HB hb))
      go_ret;exact ⟨YR,ZQ HB⟩
     have H' := ZA H;clear H;have p109 : 0 <= (x34_2 : Int) := ZD;have q109 : x34_2 < (l1.length : Int) := ZD;obtain ⟨ad109,A109_0,c109_0,e109,hx109_0,hl109_0,hi109_0⟩ := at_L2 HR1.out x34_2 p109 q109;cases e109;replace hx109_0 := ZX HB hx109_0;have HR109_0 := ZA hi109_0;have HC109_0 := ZA hl109_0;clear hi109_0 hl109_0;replace p109 := eq_true p109;replace q109 := eq_true q109;have q37 : (x34_2 : Int) <= ((l1.length : Int) : Int) := ZD;obtain ⟨i037,hi037,_,hsz37,_⟩ := info_parts info28;have hroom37 : l1.length <= c1 := HC1.out;have hC37 : Kd.C (Kd.slice 3 (Kd.int .i64)) _ (some ad109) l1.length l1 := HR1.out;have hcut37 := cut_to (P := Tryz.prog) 25 28 .i64 Tryz.underlying25 hi037 (some ad109) l1.length c1 x34_2 ZD q37 hroom37;have hr37 := Kd.C_take (m := (x34_2 : Int).toNat) hC37 (by omega);have hy37 : y110.length = (x34_2 : Int).toNat := (by rw [Ny110.out,List.length_take];omega);rw [<- Ny110.out] at hr37;rw [<- hy37] at hcut37;have HR113 := ZA hr37;have HC113 := ZA (show y110.length <= c1 from by omega);clear hr37 hC37 hroom37 hi037 hsz37;have KY37 := ZA hy37;clear hy37;replace q37 := eq_true q37
     go_wp2_with (first|((with_reducible refine YG 86 ?_);refine YC (some 42) Tryz.func86 #[.slice (some ad109) y110.length c1] (slices_Concat_int.calls k2 _ _ y110 t114 _ (ZR (Kd.C_below HR113.out HB.out)) HC113.out A27.out) ?_;rintro e w38 ⟨v115,rfl,ho0,hb⟩;refine ⟨_,rfl,?_⟩;have HO116 := ZA (Kd.R_lower ho0 (SZ HB));replace BK101 := ZA (blk_below (ZH BK101) hb);replace HB := BS HB hb)|((with_reducible refine gate_dst (N := 8) rfl ?_);(try (refine gate_guard (by rfl) ?_;dsimp only));refine ZE 8 #[.slice none 0 0] 28 ?_;intro gb117 hg w39 hbox hb;replace HO116 := ZBR HO116 hb;have BK117 := ZA (hbox);have GW117 := YQ hg HB;have GE117 := YQ hg HB;replace HB := BS HB hb;have NB101_117 := ZA ((by rw [hg];exact Nat.ne_of_lt (blk_lt (g := gb101) (o := .cells #[.slice A0 l0.length c0] 24 (0,0)) (ZH BK101)) : gb101 ≠ gb117));have NB117_101 := ZA ((by rw [hg];exact Nat.ne_of_gt (blk_lt (g := gb101) (o := .cells #[.slice A0 l0.length c0] 24 (0,0)) (ZH BK101)) : gb117 ≠ gb101));replace BK101 := ZA (blk_below (ZH BK101) hb);clear hb hbox hg;obtain ⟨Ao40,co40,eo40⟩ := Kd.R_slice HO116.out;subst eo40;have hnb41 := NB117_101.out;have hnc41 := NB101_117.out;have hcz42_0 : w39.cell? ⟨gb117,0,none⟩ = some (.slice none 0 0) := ZC BK117 0 rfl;have hfz42_0 := blk_frozen BK117.out 0)|(go_at_call 123;(with_reducible refine (impl_areLessons_1.calls k2 _ _ (rd_L2 l1 x34_2) A0 c0 l0 Ao40 co40 t114 true _ (Kd.C_below HR109_0.out (ZQ HB)) HC109_0.out (Kd.C_below HR0.out (ZQ HB)) HC0.out ?side5 (CR HO116) ?side7 ?side8 A35.out).mono ?_);(case side5 => refine (Kd.R_reads' (e := 3) (base := w.heap.size) (ok := fun k_ => True) (n := t114.length) (c := co40) ?_).2.2;exact (ZK ⟨(Kd.R_mono (Kd.R_far (p := ⟨gb117,0,none⟩) (Kd.R_types HO116.out BK117.out (by decide)) (fun _ hk => hk.2) (.slice Ao40 t114.length co40)) (fun _ h_ => h_.1))⟩));(case side7 => exact (blk_cell (cs := #[.slice A0 l0.length c0]) (t := 24) (by refine ZY ?_;refine blk_far ?_ NB101_117.out _;refine ZY ?_;exact BK101.out) 0).trans rfl);(case side8 => exact (blk_cell (cs := #[.slice Ao40 t114.length co40]) (t := 28) (by refine ZY ?_;refine blk_put (cs := #[.slice none 0 0]) ?_ 0 _ rfl;refine ZY ?_;exact BK117.out) 0).trans rfl);rintro e w43 ⟨rfl,hb⟩;replace HO116 := ZA (Kd.R_below (ZK ⟨(Kd.R_mono (Kd.R_far (p := ⟨gb117,0,none⟩) (Kd.R_types HO116.out BK117.out (by decide)) (fun _ hk => hk.2) (.slice Ao40 t114.length co40)) (fun _ h_ => h_.1))⟩) hb);replace BK101 := ZA (blk_below (g := gb101) (o := .cells #[.slice A0 l0.length c0] 24 (0,0)) (by refine ZY ?_;refine blk_far ?_ NB101_117.out _;refine ZY ?_;exact BK101.out) hb);replace BK117 := ZA (blk_below (g := gb117) (o := .cells #[.slice Ao40 t114.length co40] 28 (0,0)) (by refine ZY ?_;refine blk_put (cs := #[.slice none 0 0]) ?_ 0 _ rfl;refine ZY ?_;exact BK117.out) hb);replace HB := BS HB hb))
     go_roundg k2
     case measure => have := HJ3.out;have := HK2.out;omega
     case rel => exact ⟨(wrap64 (x34_2 + 1)),ZG,H',⟨by have := HJ3.out;have := HK2.out;omega⟩,⟨ZH BK101⟩,⟨ZQ HB⟩⟩
def impl_areGood.f (k : Nat) (l0 : List (S41)) (l1 : List (List Int)) : Option (Bool) := (impl_AreWords.f k l0).bind fun t101 => (if t101 = true then (if (l1.length : Int) <= 16 then ((impl_areLessons.f k l0 l1).bind fun t102 => (some t102)) else (some false)) else (some false))
set_option maxHeartbeats 3000000 in
set_option maxRecDepth 100000 in
theorem impl_areGood.calls (k : Nat) (A0 : Option Addr) (c0 : Nat) (l0 : List (S41)) (A1 : Option Addr) (c1 : Nat) (l1 : List (List Int)) (r : Bool) (w : World) (hr0 : Kd.C k41 w A0 l0.length l0) (hc0 : l0.length <= c0) (hr1 : Kd.C (Kd.slice 3 (Kd.int .i64)) w A1 l1.length l1) (hc1 : l1.length <= c1) (h : impl_areGood.f k l0 l1 = some r) :
  Calls Tryz.prog 61 #[.slice A0 l0.length c0,.slice A1 l1.length c1] w fun e w' => e = .returned (.bool r) ∧ Below w.heap.size w w' := by
 have HR0 := ZA hr0;have HC0 := ZA hc0;clear hr0 hc0;have HR1 := ZA hr1;have HC1 := ZA hc1;clear hr1 hc1;have HB := ZA (Below.refl w.heap.size w);have H := h;clear h;unfold impl_areGood.f at H;replace H := YJ H;obtain ⟨t101,A3,H⟩ := H;replace H := YF H;rcases H with ⟨rfl,H⟩|⟨rfl,H⟩;rotate_left
 ·obtain rfl := Option.some.inj H;go_enter Tryz.func61,Tryz.ntmps61
  go_wp2_with (first|((with_reducible refine YG 73 ?_);refine YC (some 6) Tryz.func73 #[.slice A0 l0.length c0] (impl_AreWords.calls k _ _ l0 false _ (ZR HR0.out) HC0.out A3.out) ?_;rintro e w10 ⟨rfl,hb⟩;refine ⟨_,rfl,?_⟩;replace HB := BS HB hb))
  go_ret;exact ⟨YR,ZQ HB⟩
 by_cases c5 : (l1.length : Int) <= 16;rotate_left
 ·rw [if_neg c5] at H;have c5b0 := decide_eq_false c5;have c5b1 : decide (l1.length <= 16) = false := decide_eq_false (by omega);clear c5;obtain rfl := Option.some.inj H;go_enter Tryz.func61,Tryz.ntmps61
  go_wp2_with (first|((with_reducible refine YG 73 ?_);refine YC (some 6) Tryz.func73 #[.slice A0 l0.length c0] (impl_AreWords.calls k _ _ l0 true _ (ZR HR0.out) HC0.out A3.out) ?_;rintro e w9 ⟨rfl,hb⟩;refine ⟨_,rfl,?_⟩;replace HB := BS HB hb))
  go_ret;exact ⟨YR,ZQ HB⟩
 rw [if_pos c5] at H;have c5b0 := decide_eq_true c5;have c5b1 : decide (l1.length <= 16) = true := decide_eq_true (by omega);clear c5;replace H := YJ H;obtain ⟨t102,A6,H⟩ := H;obtain rfl := Option.some.inj H;go_enter Tryz.func61,Tryz.ntmps61
 go_wp2_with (first|((with_reducible refine YG 73 ?_);refine YC (some 6) Tryz.func73 #[.slice A0 l0.length c0] (impl_AreWords.calls k _ _ l0 true _ (ZR HR0.out) HC0.out A3.out) ?_;rintro e w7 ⟨rfl,hb⟩;refine ⟨_,rfl,?_⟩;replace HB := BS HB hb)|(go_at_call 99;(with_reducible refine (impl_areLessons.calls k _ _ l0 _ _ l1 t102 _ (ZR (Kd.C_below HR0.out HB.out)) HC0.out (ZR (Kd.C_below HR1.out HB.out)) HC1.out A6.out).mono ?_);rintro e w8 ⟨rfl,hb⟩;replace HB := BS HB hb))
 go_ret;exact ⟨YR,ZQ HB⟩
def impl_allUses.l0 : Nat -> Int -> List (S41) -> Int -> Int -> Option (Int)
 | 0,_,_,_,_ => none
 | k + 1,x3,x6,x7,x8 => if x8 < x7 then (if 0 <= x8 then (if x8 < (x6.length : Int) then (impl_allUses.l0 k (wrap64 (x3 + ((rd_T41 x6 x8).f2))) x6 x7 (wrap64 (x8 + 1))) else (none)) else (none)) else (some x3)
def impl_allUses.f (k : Nat) (l0 : List (S41)) : Option (Int) := impl_allUses.l0 k 0 l0 (l0.length : Int) 0
set_option maxHeartbeats 3000000 in
set_option maxRecDepth 100000 in
theorem impl_allUses.calls (k : Nat) (A0 : Option Addr) (c0 : Nat) (l0 : List (S41)) (r : Int) (w : World) (hr0 : Kd.C k41 w A0 l0.length l0) (hc0 : l0.length <= c0) (h : impl_allUses.f k l0 = some r) :
  Calls Tryz.prog 84 #[.slice A0 l0.length c0] w fun e w' => e = .returned (.int .i64 r) ∧ Below w.heap.size w w' := by
 have hu41 := Tryz.underlying41;have HR0 := ZA hr0;have HC0 := ZA hc0;clear hr0 hc0;have HB := ZA (Below.refl w.heap.size w);have H : (impl_allUses.l0 k 0 l0 (l0.length : Int) 0) = some r := h;clear h;have H' := ZA H;clear H;go_enter Tryz.func84,Tryz.ntmps84;go_wp2
 go_loopg [3,8] k (fun kq v3 v8 w' => ∃ (x3_1 : Int) (x8_1 : Int),v3 = .int .i64 x3_1 ∧ v8 = .int .i64 x8_1 ∧ Aside0 (impl_allUses.l0 kq x3_1 l0 (l0.length : Int) x8_1 = some r) ∧ Aside0 (kq <= k) ∧ Aside0 (Below w.heap.size w w'))
 case atStart => exact ⟨(0),(0),ZG,ZG,H',⟨Nat.le_refl _⟩,⟨ZQ HB⟩⟩
 case round =>
  clear H';obtain ⟨x3_1,x8_1,rfl,rfl,HA,HK1,HB⟩ := hrel;cases gk with
  | zero => exact absurd HA.out (by simp [impl_allUses.l0])
  | succ k1 =>
   have H := HA.out;clear HA;simp only [impl_allUses.l0] at H;replace H := YI H;rcases H with ⟨c2b0,H⟩|⟨c2b0,H⟩;rotate_left
   ·obtain rfl := Option.some.inj H;go_wp2;go_ret;exact ⟨YR,ZQ HB⟩
   replace H := YN H;obtain ⟨c3b0,H⟩ := H;replace H := YN H;obtain ⟨c4b0,H⟩ := H;have H' := ZA H;clear H;have p101 : 0 <= (x8_1 : Int) := ZD;have q101 : x8_1 < (l0.length : Int) := ZD;obtain ⟨ad101,A101_1,c101_1,e101,hx101_0,hx101_1,hx101_2,hl101_1,hi101_1⟩ := at_T41 HR0.out x8_1 p101 q101;cases e101;replace hx101_0 := ZX HB hx101_0;replace hx101_1 := ZX HB hx101_1;replace hx101_2 := ZX HB hx101_2;have HR101_1 := ZA hi101_1;have HC101_1 := ZA hl101_1;clear hi101_1 hl101_1;replace p101 := eq_true p101;replace q101 := eq_true q101
   go_wp2_with (first|((with_reducible refine gate_dst (N := 5) rfl ?_);refine ZE 5 #[.string (⟨#[]⟩ : ByteArray),.slice none 0 0,.int .i64 0] 41 ?_;intro gb102 hg w5 hbox hb;have BK102 := ZA (hbox);have GW102 := YQ hg HB;have GE102 := YQ hg HB;replace HB := BS HB hb;clear hb hbox hg;have hcz6_0 : w5.cell? ⟨gb102,0,none⟩ = some (.string (⟨#[]⟩ : ByteArray)) := ZC BK102 0 rfl;have hcz6_1 : w5.cell? ⟨gb102,1,none⟩ = some (.slice none 0 0) := ZC BK102 1 rfl;have hcz6_2 : w5.cell? ⟨gb102,2,none⟩ = some (.int .i64 0) := ZC BK102 2 rfl;have hfz6_0 := blk_frozen BK102.out 0;have hfz6_1 := blk_frozen BK102.out 1;have hfz6_2 := blk_frozen BK102.out 2))
   go_roundg k1
   case measure => have := HK1.out;omega
   case rel => exact ⟨(wrap64 (x3_1 + ((rd_T41 l0 x8_1).f2))),(wrap64 (x8_1 + 1)),ZG,ZG,H',⟨by have := HK1.out;omega⟩,⟨ZQ HB⟩⟩
def impl_usesIn.l0 : Nat -> List (S41) -> Int -> List Int -> Int -> Int -> Option (Int)
 | 0,_,_,_,_,_ => none
 | k + 1,x0,x5,x8,x9,x10 => if x10 < x9 then (if 0 <= x10 then (if x10 < (x8.length : Int) then (if 0 <= (rd x8 x10) then (if (rd x8 x10) < (x0.length : Int) then (impl_usesIn.l0 k x0 (wrap64 (x5 + ((rd_T41 x0 (rd x8 x10)).f2))) x8 x9 (wrap64 (x10 + 1))) else (none)) else (none)) else (none)) else (none)) else (some x5)
def impl_usesIn.f (k : Nat) (l0 : List (S41)) (l1 : List Int) : Option (Int) := impl_usesIn.l0 k l0 0 l1 (l1.length : Int) 0
set_option maxHeartbeats 3000000 in
set_option maxRecDepth 100000 in
theorem impl_usesIn.calls (k : Nat) (A0 : Option Addr) (c0 : Nat) (l0 : List (S41)) (A1 : Option Addr) (c1 : Nat) (l1 : List Int) (r : Int) (w : World) (hr0 : Kd.C k41 w A0 l0.length l0) (hc0 : l0.length <= c0) (hr1 : Kd.C (Kd.int .i64) w A1 l1.length l1) (hc1 : l1.length <= c1) (h : impl_usesIn.f k l0 l1 = some r) :
  Calls Tryz.prog 85 #[.slice A0 l0.length c0,.slice A1 l1.length c1] w fun e w' => e = .returned (.int .i64 r) ∧ Drawn0 w w' := by
 have HR0 := ZA hr0;have HC0 := ZA hc0;clear hr0 hc0;have HR1 := ZA hr1;have HC1 := ZA hc1;clear hr1 hc1;have H : (impl_usesIn.l0 k l0 0 l1 (l1.length : Int) 0) = some r := h;clear h;have H' := ZA H;clear H;go_enter Tryz.func85,Tryz.ntmps85;go_wp2
 go_loopg [5,10] k (fun kq v5 v10 w' => ∃ (x5_1 : Int) (x10_1 : Int),v5 = .int .i64 x5_1 ∧ v10 = .int .i64 x10_1 ∧ Aside0 (impl_usesIn.l0 kq l0 x5_1 l1 (l1.length : Int) x10_1 = some r) ∧ Aside0 (kq <= k) ∧ Drawn0 w w')
 case atStart => exact ⟨(0),(0),ZG,ZG,H',⟨Nat.le_refl _⟩,by repeat (first|exact Drawn0.refl _|apply Drawn0.step)⟩
 case round =>
  clear H';obtain ⟨x5_1,x10_1,rfl,rfl,HA,HK1,⟨m1,rfl⟩⟩ := hrel;cases gk with
  | zero => exact absurd HA.out (by simp [impl_usesIn.l0])
  | succ k1 =>
   have H := HA.out;clear HA;simp only [impl_usesIn.l0] at H;replace H := YI H;rcases H with ⟨c3b0,H⟩|⟨c3b0,H⟩;rotate_left
   ·obtain rfl := Option.some.inj H;go_wp2;go_ret;exact ⟨by first|rfl|(simp;done)|(simp [*];done),by repeat (first|exact Drawn0.refl _|apply Drawn0.step)⟩
   replace H := YN H;obtain ⟨c4b0,H⟩ := H;replace H := YN H;obtain ⟨c5b0,H⟩ := H;replace H := YN H;obtain ⟨c6b0,H⟩ := H;replace H := YN H;obtain ⟨c7b0,H⟩ := H;have H' := ZA H;clear H;have p101 : 0 <= (x10_1 : Int) := ZD;have q101 : x10_1 < (l1.length : Int) := ZD;obtain ⟨ad101,e101,hx101_0⟩ := Kd.at_int HR1.out x10_1 p101 q101;cases e101;replace p101 := eq_true p101;replace q101 := eq_true q101;have p102 : 0 <= ((rd l1 x10_1) : Int) := ZD;have q102 : (rd l1 x10_1) < (l0.length : Int) := ZD;obtain ⟨ad102,A102_1,c102_1,e102,hx102_0,hx102_1,hx102_2,hl102_1,hi102_1⟩ := at_T41 HR0.out (rd l1 x10_1) p102 q102;cases e102;have HR102_1 := ZA hi102_1;have HC102_1 := ZA hl102_1;clear hi102_1 hl102_1;replace p102 := eq_true p102;replace q102 := eq_true q102;go_wp2
   go_roundg k1
   case measure => have := HK1.out;omega
   case rel => exact ⟨(wrap64 (x5_1 + ((rd_T41 l0 (rd l1 x10_1)).f2))),(wrap64 (x10_1 + 1)),ZG,ZG,H',⟨by have := HK1.out;omega⟩,by repeat (first|exact Drawn0.refl _|apply Drawn0.step)⟩
def impl_CoverageAfter.j0 : Nat -> List (S41) -> List (List Int) -> Int -> Bool -> Option (Int × Bool)
 | 0,_,_,_,_ => none
 | k + 1,x0,x1,x2,x23 => if x23 = true then (some (0,false)) else (if 0 <= x2 then (if x2 <= (x1.length : Int) then ((slices_Concat_int.f k (x1.take (x2 : Int).toNat)).bind fun t108 => ((impl_usesIn.f k x0 t108).bind fun t111 => ((impl_allUses.f k x0).bind fun t112 => (if t112 = 0 then (none) else (some (wrap64 (Int.tdiv (wrap64 (100 * t111)) t112),true)))))) else (none)) else (none))
def impl_CoverageAfter.f (k : Nat) (l0 : List (S41)) (l1 : List (List Int)) (a2 : Int) : Option (Int × Bool) := (impl_areGood.f k l0 l1).bind fun t101 => (if t101 = true then ((impl_within.f a2 0 (l1.length : Int)).bind fun t102 => (if t102 = true then ((impl_allUses.f k l0).bind fun t103 => (impl_CoverageAfter.j0 k l0 l1 a2 (t103 == 0))) else (impl_CoverageAfter.j0 k l0 l1 a2 true))) else (impl_CoverageAfter.j0 k l0 l1 a2 true))
set_option maxHeartbeats 3000000 in
set_option maxRecDepth 100000 in
theorem impl_CoverageAfter.calls (k : Nat) (A0 : Option Addr) (c0 : Nat) (l0 : List (S41)) (A1 : Option Addr) (c1 : Nat) (l1 : List (List Int)) (a2 : Int) (r1 : Int) (r2 : Bool) (w : World) (hr0 : Kd.C k41 w A0 l0.length l0) (hc0 : l0.length <= c0) (hr1 : Kd.C (Kd.slice 3 (Kd.int .i64)) w A1 l1.length l1) (hc1 : l1.length <= c1) (h : impl_CoverageAfter.f k l0 l1 a2 = some (r1,r2)) :
  Calls Tryz.prog 27 #[.slice A0 l0.length c0,.slice A1 l1.length c1,.int .i64 a2] w fun e w' => e = .returned (.tuple #[.int .i64 r1,.bool r2]) ∧ Below w.heap.size w w' := by
 have HR0 := ZA hr0;have HC0 := ZA hc0;clear hr0 hc0;have HR1 := ZA hr1;have HC1 := ZA hc1;clear hr1 hc1;have HB := ZA (Below.refl w.heap.size w);have H := h;clear h;unfold impl_CoverageAfter.f at H;have HC4 := ZA H;clear H;go_enter Tryz.func27,Tryz.ntmps27
 go_upto_region 1 with (fail)
 go_cut [23] (fun v23 wc => ∃ (kq : Nat) (x23_3 : Bool),v23 = .bool x23_3 ∧ Aside0 (impl_CoverageAfter.j0 kq l0 l1 a2 x23_3 = some (r1,r2)) ∧ Aside0 (kq <= k) ∧ Aside0 (Below w.heap.size w wc))
 case first =>
  have H := HC4.out;clear HC4;replace H := YJ H;obtain ⟨t101,A5,H⟩ := H;replace H := YF H;rcases H with ⟨rfl,H⟩|⟨rfl,H⟩;rotate_left
  ·have H' := ZA H;clear H
   go_wp2_with (first|((with_reducible refine YG 61 ?_);refine YC (some 10) Tryz.func61 #[.slice A0 l0.length c0,.slice A1 l1.length c1] (impl_areGood.calls k _ _ l0 _ _ l1 false _ (ZR (Kd.C_below HR0.out HB.out)) HC0.out (ZR (Kd.C_below HR1.out HB.out)) HC1.out A5.out) ?_;rintro e w13 ⟨rfl,hb⟩;refine ⟨_,rfl,?_⟩;replace HB := BS HB hb))
   go_meet
   case rel => exact ⟨_,(true),ZG,H',⟨YO⟩,⟨ZQ HB⟩⟩
  replace H := YJ H;obtain ⟨t102,A7,H⟩ := H;replace H := YF H;rcases H with ⟨rfl,H⟩|⟨rfl,H⟩;rotate_left
  ·have H' := ZA H;clear H
   go_wp2_with (first|((with_reducible refine YG 61 ?_);refine YC (some 10) Tryz.func61 #[.slice A0 l0.length c0,.slice A1 l1.length c1] (impl_areGood.calls k _ _ l0 _ _ l1 true _ (ZR (Kd.C_below HR0.out HB.out)) HC0.out (ZR (Kd.C_below HR1.out HB.out)) HC1.out A5.out) ?_;rintro e w12 ⟨rfl,hb⟩;refine ⟨_,rfl,?_⟩;replace HB := BS HB hb)|(go_at_call 62;(with_reducible refine (impl_within.calls a2 0 (l1.length : Int) false _ A7.out).mono ?_);rintro e w' ⟨rfl,⟨nd,rfl⟩⟩))
   go_meet
   case rel => exact ⟨_,(true),ZG,H',⟨YO⟩,⟨ZQ HB⟩⟩
  replace H := YJ H;obtain ⟨t103,A9,H⟩ := H;have H' := ZA H;clear H
  go_wp2_with (first|((with_reducible refine YG 61 ?_);refine YC (some 10) Tryz.func61 #[.slice A0 l0.length c0,.slice A1 l1.length c1] (impl_areGood.calls k _ _ l0 _ _ l1 true _ (ZR (Kd.C_below HR0.out HB.out)) HC0.out (ZR (Kd.C_below HR1.out HB.out)) HC1.out A5.out) ?_;rintro e w10 ⟨rfl,hb⟩;refine ⟨_,rfl,?_⟩;replace HB := BS HB hb)|(go_at_call 62;(with_reducible refine (impl_within.calls a2 0 (l1.length : Int) true _ A7.out).mono ?_);rintro e w' ⟨rfl,⟨nd,rfl⟩⟩)|(go_at_call 84;(with_reducible refine (impl_allUses.calls k _ _ l0 t103 _ (ZR (Kd.C_below HR0.out (ZQ HB))) HC0.out A9.out).mono ?_);rintro e w11 ⟨rfl,hb⟩;replace HB := BS HB hb))
  go_meet
  case rel => exact ⟨_,((t103 == 0)),ZG,H',⟨YO⟩,⟨ZQ HB⟩⟩
 case rest =>
  clear HC4;obtain ⟨kq,x23_3,rfl,HA,HJ3,HB⟩ := hcut;cases kq with
  | zero => exact absurd HA.out (by simp [impl_CoverageAfter.j0])
  | succ kj3 =>
   have H := HA.out;clear HA;simp only [impl_CoverageAfter.j0] at H;by_cases c14 : x23_3 = true
   ·subst c14;rw [if_pos rfl] at H;simp only [Option.some.injEq,Prod.mk.injEq] at H;obtain ⟨rfl,rfl⟩ := H;go_wp2;go_ret2;exact ⟨YR,ZQ HB⟩
   replace c14 := Bool.eq_false_iff.mpr c14;subst c14;rw [if_neg (show ¬ (false = true) by decide)] at H;replace H := YM H;obtain ⟨c15,H⟩ := H;have c15b0 := eq_true c15;have c15b1 := decide_eq_true c15;clear c15;replace H := YM H;obtain ⟨c16,H⟩ := H;have c16b0 := eq_true c16;have c16b1 := decide_eq_true c16;clear c16;obtain ⟨y104,hy104⟩ : ∃ y_ : List (List Int),y_ = (l1.take (a2 : Int).toNat) := ⟨_,rfl⟩;replace H : ((slices_Concat_int.f kj3 y104).bind fun t108 => ((impl_usesIn.f kj3 l0 t108).bind fun t111 => ((impl_allUses.f kj3 l0).bind fun t112 => (if t112 = 0 then (none) else (some (wrap64 (Int.tdiv (wrap64 (100 * t111)) t112),true)))))) = some (r1,r2) := YH hy104 H;have Ny104 := ZA hy104;clear hy104;replace H := YJ H;obtain ⟨t108,A17,H⟩ := H;replace H := YJ H;obtain ⟨t111,A18,H⟩ := H;replace H := YJ H;obtain ⟨t112,A19,H⟩ := H;by_cases c20 : t112 = 0
   ·rw [if_pos c20] at H;exact absurd H (by simp)
   rw [if_neg c20] at H;have c20b0 : (t112 == 0) = false := beq_eq_false_iff_ne.mpr c20;have c20b1 : (t112 != 0) = true := bne_iff_ne.mpr c20;simp only [Option.some.injEq,Prod.mk.injEq] at H;obtain ⟨rfl,rfl⟩ := H;have q21 : (a2 : Int) <= ((l1.length : Int) : Int) := ZD;obtain ⟨i021,hi021,_,hsz21,_⟩ := info_parts info28;have hroom21 : l1.length <= c1 := HC1.out;have hC21 : Kd.C (Kd.slice 3 (Kd.int .i64)) _ A1 l1.length l1 := HR1.out;have hcut21 := cut_to (P := Tryz.prog) 25 28 .i64 Tryz.underlying25 hi021 A1 l1.length c1 a2 ZD q21 hroom21;have hr21 := Kd.C_take (m := (a2 : Int).toNat) hC21 (by omega);have hy21 : y104.length = (a2 : Int).toNat := (by rw [Ny104.out,List.length_take];omega);rw [<- Ny104.out] at hr21;rw [<- hy21] at hcut21;have HR107 := ZA hr21;have HC107 := ZA (show y104.length <= c1 from by omega);clear hr21 hC21 hroom21 hi021 hsz21;have KY21 := ZA hy21;clear hy21;replace q21 := eq_true q21
   go_wp2_with (first|((with_reducible refine YG 86 ?_);refine YC (some 28) Tryz.func86 #[.slice A1 y104.length c1] (slices_Concat_int.calls kj3 _ _ y104 t108 _ (ZR (Kd.C_below HR107.out HB.out)) HC107.out A17.out) ?_;rintro e w22 ⟨v109,rfl,ho0,hb⟩;refine ⟨_,rfl,?_⟩;have HO110 := ZA (Kd.R_lower ho0 (SZ HB));replace HB := BS HB hb;obtain ⟨Ao23,co23,eo23⟩ := Kd.R_slice HO110.out;subst eo23)|((with_reducible refine YG 85 ?_);refine YC (some 29) Tryz.func85 #[.slice A0 l0.length c0,.slice Ao23 t108.length co23] (impl_usesIn.calls kj3 _ _ l0 _ _ t108 t111 _ (ZR (Kd.C_below HR0.out HB.out)) HC0.out (WR HO110) (CR HO110) A18.out) ?_;rintro e w' ⟨rfl,⟨nd,rfl⟩⟩;refine ⟨_,rfl,?_⟩)|((with_reducible refine YG 84 ?_);refine YC (some 32) Tryz.func84 #[.slice A0 l0.length c0] (impl_allUses.calls kj3 _ _ l0 t112 _ (ZR (Kd.C_below HR0.out (ZQ HB))) HC0.out A19.out) ?_;rintro e w24 ⟨rfl,hb⟩;refine ⟨_,rfl,?_⟩;replace HO110 := ZBR HO110 hb;replace HB := BS HB hb))
   go_ret2;exact ⟨YR,ZQ HB⟩
mutual
def spec_leFair.l0 : Nat -> List (S41) -> List (List Int) -> List Int -> List (List Int) -> Int -> Int -> Option (Bool)
 | 0,_,_,_,_,_,_ => none
 | k + 1,x0,x1,x5,x10,x11,x12 => if x12 < x11 then (if 0 <= x12 then (if x12 < (x10.length : Int) then (spec_leFair.l1 k x0 x1 x5 x10 x11 x12 (rd_L2 x10 x12) ((rd_L2 x10 x12).length : Int) 0) else (none)) else (none)) else (some (decide ((x1.length : Int) <= 16)))
def spec_leFair.l1 : Nat -> List (S41) -> List (List Int) -> List Int -> List (List Int) -> Int -> Int -> List Int -> Int -> Int -> Option (Bool)
 | 0,_,_,_,_,_,_,_,_,_ => none
 | k + 1,x0,x1,x5,x10,x11,x12,x16,x17,x18 => if x18 < x17 then (if 0 <= x18 then (if x18 < (x16.length : Int) then ((spec_l1In.f (rd x16 x18) 0 (wrap64 ((x0.length : Int) - 1))).bind fun t103 => (if t103 = true then ((spec_l1Has.f k x5 (rd x16 x18)).bind fun t104 => (if t104 = true then (some false) else (if x5.length < 17592186044416 then (spec_leFair.l1 k x0 x1 (x5 ++ [rd x16 x18]) x10 x11 x12 x16 x17 (wrap64 (x18 + 1))) else (none)))) else (some false))) else (none)) else (none)) else (spec_leFair.l0 k x0 x1 x5 x10 x11 (wrap64 (x12 + 1)))
end
def spec_leFair.f (k : Nat) (l0 : List (S41)) (l1 : List (List Int)) : Option (Bool) := spec_leFair.l0 k l0 l1 ([] : List Int) l1 (l1.length : Int) 0
set_option maxHeartbeats 3000000 in
set_option maxRecDepth 100000 in
theorem spec_leFair.calls (k : Nat) (A0 : Option Addr) (c0 : Nat) (l0 : List (S41)) (A1 : Option Addr) (c1 : Nat) (l1 : List (List Int)) (r : Bool) (w : World) (hr0 : Kd.C k41 w A0 l0.length l0) (hc0 : l0.length <= c0) (hr1 : Kd.C (Kd.slice 3 (Kd.int .i64)) w A1 l1.length l1) (hc1 : l1.length <= c1) (h : spec_leFair.f k l0 l1 = some r) :
  Calls Tryz.prog 102 #[.slice A0 l0.length c0,.slice A1 l1.length c1] w fun e w' => e = .returned (.bool r) ∧ Below w.heap.size w w' := by
 have HR0 := ZA hr0;have HC0 := ZA hc0;clear hr0 hc0;have HR1 := ZA hr1;have HC1 := ZA hc1;clear hr1 hc1;have HB := ZA (Below.refl w.heap.size w);have H : (spec_leFair.l0 k l0 l1 ([] : List Int) l1 (l1.length : Int) 0) = some r := h;clear h;have H' := ZA H;clear H;go_enter Tryz.func102,Tryz.ntmps102;go_wp2
 go_loopg [5,12] k (fun kq v5 v12 w' => ∃ (x5_1 : List Int) (x12_1 : Int),v12 = .int .i64 x12_1 ∧ Aside0 (spec_leFair.l0 kq l0 l1 x5_1 l1 (l1.length : Int) x12_1 = some r) ∧ Aside0 (kq <= k) ∧ Aside0 (Kd.R (Kd.int .i64) 3 w' w.heap.size (fun _ => True) v5 x5_1) ∧ Aside0 (Below w.heap.size w w'))
 case atStart => exact ⟨(([] : List Int)),(0),ZG,H',⟨Nat.le_refl _⟩,⟨by first|exact Kd.R_nil _ _ _ _ _|exact Kd.N_nil _ _ _ _ _|exact Kd.V_nil _ _ _ _ _|exact Kd.Q_nil _ _ _ _ _|exact Kd.S_nil _ _ _ _ _⟩,⟨ZQ HB⟩⟩
 case round =>
  clear H';obtain ⟨x5_1,x12_1,rfl,HA,HK1,HO_5,HB⟩ := hrel;cases gk with
  | zero => exact absurd HA.out (by simp [spec_leFair.l0])
  | succ k1 =>
   have H := HA.out;clear HA;simp only [spec_leFair.l0] at H;replace H := YI H;rcases H with ⟨c3b0,H⟩|⟨c3b0,H⟩;rotate_left
   ·obtain rfl := Option.some.inj H;go_wp2;go_ret;exact ⟨YR,ZQ HB⟩
   replace H := YN H;obtain ⟨c4b0,H⟩ := H;replace H := YN H;obtain ⟨c5b0,H⟩ := H;have H' := ZA H;clear H;have p101 : 0 <= (x12_1 : Int) := ZD;have q101 : x12_1 < (l1.length : Int) := ZD;obtain ⟨ad101,A101_0,c101_0,e101,hx101_0,hl101_0,hi101_0⟩ := at_L2 HR1.out x12_1 p101 q101;cases e101;replace hx101_0 := ZX HB hx101_0;have HR101_0 := ZA hi101_0;have HC101_0 := ZA hl101_0;clear hi101_0 hl101_0;replace p101 := eq_true p101;replace q101 := eq_true q101;go_wp2
   go_loopg [5,18] k1 (fun kq v5 v18 w' => ∃ (x5_2 : List Int) (x18_2 : Int),v18 = .int .i64 x18_2 ∧ Aside0 (spec_leFair.l1 kq l0 l1 x5_2 l1 (l1.length : Int) x12_1 (rd_L2 l1 x12_1) ((rd_L2 l1 x12_1).length : Int) x18_2 = some r) ∧ Aside0 (kq <= k1) ∧ Aside0 (Kd.R (Kd.int .i64) 3 w' w.heap.size (fun _ => True) v5 x5_2) ∧ Aside0 (Below w.heap.size w w'))
   case atStart => exact ⟨(x5_1),(0),ZG,H',⟨Nat.le_refl _⟩,⟨ZK HO_5⟩,⟨ZQ HB⟩⟩
   case round =>
    clear H';obtain ⟨x5_2,x18_2,rfl,HA,HK2,HO_5,HB⟩ := hrel;cases gk with
    | zero => exact absurd HA.out (by simp [spec_leFair.l1])
    | succ k2 =>
     have H := HA.out;clear HA;simp only [spec_leFair.l1] at H;replace H := YI H;rcases H with ⟨c6b0,H⟩|⟨c6b0,H⟩;rotate_left
     ·have H' := ZA H;clear H;go_wp2
      go_roundg k2
      case measure => have := HK1.out;have := HK2.out;omega
      case rel => exact ⟨(x5_2),(wrap64 (x12_1 + 1)),ZG,H',⟨by have := HK1.out;have := HK2.out;omega⟩,⟨ZK HO_5⟩,⟨ZQ HB⟩⟩
     replace H := YN H;obtain ⟨c7b0,H⟩ := H;replace H := YN H;obtain ⟨c8b0,H⟩ := H;replace H := YJ H;obtain ⟨t103,A9,H⟩ := H;replace H := YF H;rcases H with ⟨rfl,H⟩|⟨rfl,H⟩;rotate_left
     ·obtain rfl := Option.some.inj H;have p102 : 0 <= (x18_2 : Int) := ZD;have q102 : x18_2 < ((rd_L2 l1 x12_1).length : Int) := ZD;obtain ⟨ad102,e102,hx102_0⟩ := Kd.at_int HR101_0.out x18_2 p102 q102;cases e102;replace hx102_0 := ZX HB hx102_0;replace p102 := eq_true p102;replace q102 := eq_true q102
      go_wp2_with (first|((with_reducible refine YG 65 ?_);refine YC (some 26) Tryz.func65 #[.int .i64 (rd (rd_L2 l1 x12_1) x18_2),.int .i64 0,.int .i64 (wrap64 ((l0.length : Int) - 1))] (spec_l1In.calls (rd (rd_L2 l1 x12_1) x18_2) 0 (wrap64 ((l0.length : Int) - 1)) false _ A9.out) ?_;rintro e w' ⟨rfl,⟨nd,rfl⟩⟩;refine ⟨_,rfl,?_⟩))
      go_ret;exact ⟨YR,ZQ HB⟩
     replace H := YJ H;obtain ⟨t104,A11,H⟩ := H;by_cases c12 : t104 = true
     ·subst c12;rw [if_pos rfl] at H;obtain rfl := Option.some.inj H;have p102 : 0 <= (x18_2 : Int) := ZD;have q102 : x18_2 < ((rd_L2 l1 x12_1).length : Int) := ZD;obtain ⟨ad102,e102,hx102_0⟩ := Kd.at_int HR101_0.out x18_2 p102 q102;cases e102;replace hx102_0 := ZX HB hx102_0;replace p102 := eq_true p102;replace q102 := eq_true q102
      go_wp2_with (first|((with_reducible refine YG 65 ?_);refine YC (some 26) Tryz.func65 #[.int .i64 (rd (rd_L2 l1 x12_1) x18_2),.int .i64 0,.int .i64 (wrap64 ((l0.length : Int) - 1))] (spec_l1In.calls (rd (rd_L2 l1 x12_1) x18_2) 0 (wrap64 ((l0.length : Int) - 1)) true _ A9.out) ?_;rintro e w' ⟨rfl,⟨nd,rfl⟩⟩;refine ⟨_,rfl,?_⟩;obtain ⟨Ao13,co13,eo13⟩ := Kd.R_slice HO_5.out;subst eo13)|(go_at_call 72;(with_reducible refine (spec_l1Has.calls k2 _ _ x5_2 (rd (rd_L2 l1 x12_1) x18_2) true _ (WR HO_5) (CR HO_5) A11.out).mono ?_);rintro e w' ⟨rfl,⟨nd,rfl⟩⟩))
      go_ret;exact ⟨YR,ZQ HB⟩
     replace c12 := Bool.eq_false_iff.mpr c12;subst c12;rw [if_neg (show ¬ (false = true) by decide)] at H;replace H := YM H;obtain ⟨c14,H⟩ := H;have LMc14 := ZA c14;clear c14;obtain ⟨y105,hy105⟩ : ∃ y_ : List Int,y_ = (x5_2 ++ [rd (rd_L2 l1 x12_1) x18_2]) := ⟨_,rfl⟩;replace H : (spec_leFair.l1 k2 l0 l1 y105 l1 (l1.length : Int) x12_1 (rd_L2 l1 x12_1) ((rd_L2 l1 x12_1).length : Int) (wrap64 (x18_2 + 1))) = some r := YH hy105 H;have Ny105 := ZA hy105;clear hy105;have H' := ZA H;clear H;have p102 : 0 <= (x18_2 : Int) := ZD;have q102 : x18_2 < ((rd_L2 l1 x12_1).length : Int) := ZD;obtain ⟨ad102,e102,hx102_0⟩ := Kd.at_int HR101_0.out x18_2 p102 q102;cases e102;replace hx102_0 := ZX HB hx102_0;replace p102 := eq_true p102;replace q102 := eq_true q102
     go_wp2_with (first|((with_reducible refine YG 65 ?_);refine YC (some 26) Tryz.func65 #[.int .i64 (rd (rd_L2 l1 x12_1) x18_2),.int .i64 0,.int .i64 (wrap64 ((l0.length : Int) - 1))] (spec_l1In.calls (rd (rd_L2 l1 x12_1) x18_2) 0 (wrap64 ((l0.length : Int) - 1)) true _ A9.out) ?_;rintro e w' ⟨rfl,⟨nd,rfl⟩⟩;refine ⟨_,rfl,?_⟩;obtain ⟨Ao15,co15,eo15⟩ := Kd.R_slice HO_5.out;subst eo15)|(go_at_call 72;(with_reducible refine (spec_l1Has.calls k2 _ _ x5_2 (rd (rd_L2 l1 x12_1) x18_2) false _ (WR HO_5) (CR HO_5) A11.out).mono ?_);rintro e w' ⟨rfl,⟨nd,rfl⟩⟩)|((with_reducible refine gate_builtin (b := .append) (xs := #[.tmp 33,.tmp 35]) rfl ?_);at_builtin;refine Kd.R_append (Kd.int .i64) (w0 := w) w.heap.size rfl (.tmp 33) (.tmp 35) 28 3 (.int .i64 0) 8 rfl Tryz.underlying28 info3 rfl (by decide) (by omega) (.slice Ao15 x5_2.length co15) x5_2 (rd (rd_L2 l1 x12_1) x18_2) [.int .i64 (rd (rd_L2 l1 x12_1) x18_2)] (fun _ => True) (fun _ => False) rfl rfl rfl (fun _ hk => hk.elim) (fun _ _ => trivial) (ZK HO_5) (ZQ HB) (SZ HB) ?aL ?_;(case aL => have := LMc14.out;omega);intro v106 w16 ho hb hg hat;rw [<- Ny105.out] at ho;replace HB := ZA (hb);have HO107 := ZA (ho);clear HO_5;clear ho hb hg hat))
     go_roundg k2
     case measure => have := HK1.out;have := HK2.out;omega
     case rel => exact ⟨(y105),(wrap64 (x18_2 + 1)),ZG,H',⟨by have := HK1.out;have := HK2.out;omega⟩,⟨ZK HO107⟩,⟨ZQ HB⟩⟩
mutual
def spec_leUntaught.l0 : Nat -> List (S41) -> List Int -> List (List Int) -> Int -> Int -> Option (Int × Int)
 | 0,_,_,_,_,_ => none
 | k + 1,x0,x6,x11,x12,x13 => if x13 < x12 then (if 0 <= x13 then (if x13 < (x11.length : Int) then (spec_leUntaught.l1 k x0 x6 x13 (rd_L2 x11 x13) x11 x12 x13 (rd_L2 x11 x13) ((rd_L2 x11 x13).length : Int) 0) else (none)) else (none)) else (some ((-1),(-1)))
def spec_leUntaught.l1 : Nat -> List (S41) -> List Int -> Int -> List Int -> List (List Int) -> Int -> Int -> List Int -> Int -> Int -> Option (Int × Int)
 | 0,_,_,_,_,_,_,_,_,_,_ => none
 | k + 1,x0,x6,x7,x8,x11,x12,x13,x18,x19,x20 => if x20 < x19 then (if 0 <= x20 then (if x20 < (x18.length : Int) then ((spec_leReady.f k x0 x6 (rd x18 x20)).bind fun t103 => (if t103 = true then (spec_leUntaught.l1 k x0 x6 x7 x8 x11 x12 x13 x18 x19 (wrap64 (x20 + 1))) else (some (x7,rd x18 x20)))) else (none)) else (none)) else (if x6.length + x8.length < 17592186044416 then (spec_leUntaught.l0 k x0 (x6 ++ x8) x11 x12 (wrap64 (x13 + 1))) else (none))
end
def spec_leUntaught.f (k : Nat) (l0 : List (S41)) (l1 : List (List Int)) : Option (Int × Int) := spec_leUntaught.l0 k l0 ([] : List Int) l1 (l1.length : Int) 0
set_option maxHeartbeats 3000000 in
set_option maxRecDepth 100000 in
theorem spec_leUntaught.calls (k : Nat) (A0 : Option Addr) (c0 : Nat) (l0 : List (S41)) (A1 : Option Addr) (c1 : Nat) (l1 : List (List Int)) (r1 : Int) (r2 : Int) (w : World) (hr0 : Kd.C k41 w A0 l0.length l0) (hc0 : l0.length <= c0) (hr1 : Kd.C (Kd.slice 3 (Kd.int .i64)) w A1 l1.length l1) (hc1 : l1.length <= c1) (h : spec_leUntaught.f k l0 l1 = some (r1,r2)) :
  Calls Tryz.prog 103 #[.slice A0 l0.length c0,.slice A1 l1.length c1] w fun e w' => e = .returned (.tuple #[.int .i64 r1,.int .i64 r2]) ∧ Below w.heap.size w w' := by
 have HR0 := ZA hr0;have HC0 := ZA hc0;clear hr0 hc0;have HR1 := ZA hr1;have HC1 := ZA hc1;clear hr1 hc1;have HB := ZA (Below.refl w.heap.size w);have H : (spec_leUntaught.l0 k l0 ([] : List Int) l1 (l1.length : Int) 0) = some (r1,r2) := h;clear h;have H' := ZA H;clear H;go_enter Tryz.func103,Tryz.ntmps103;go_wp2
 go_loopg [6,13] k (fun kq v6 v13 w' => ∃ (x6_1 : List Int) (x13_1 : Int),v13 = .int .i64 x13_1 ∧ Aside0 (spec_leUntaught.l0 kq l0 x6_1 l1 (l1.length : Int) x13_1 = some (r1,r2)) ∧ Aside0 (kq <= k) ∧ Aside0 (Kd.R (Kd.int .i64) 3 w' w.heap.size (fun _ => True) v6 x6_1) ∧ Aside0 (Below w.heap.size w w'))
 case atStart => exact ⟨(([] : List Int)),(0),ZG,H',⟨Nat.le_refl _⟩,⟨by first|exact Kd.R_nil _ _ _ _ _|exact Kd.N_nil _ _ _ _ _|exact Kd.V_nil _ _ _ _ _|exact Kd.Q_nil _ _ _ _ _|exact Kd.S_nil _ _ _ _ _⟩,⟨ZQ HB⟩⟩
 case round =>
  clear H';obtain ⟨x6_1,x13_1,rfl,HA,HK1,HO_6,HB⟩ := hrel;cases gk with
  | zero => exact absurd HA.out (by simp [spec_leUntaught.l0])
  | succ k1 =>
   have H := HA.out;clear HA;simp only [spec_leUntaught.l0] at H;replace H := YI H;rcases H with ⟨c3b0,H⟩|⟨c3b0,H⟩;rotate_left
   ·simp only [Option.some.injEq,Prod.mk.injEq] at H;obtain ⟨rfl,rfl⟩ := H;go_wp2;go_ret2;exact ⟨YR,ZQ HB⟩
   replace H := YN H;obtain ⟨c4b0,H⟩ := H;replace H := YN H;obtain ⟨c5b0,H⟩ := H;have H' := ZA H;clear H;have p101 : 0 <= (x13_1 : Int) := ZD;have q101 : x13_1 < (l1.length : Int) := ZD;obtain ⟨ad101,A101_0,c101_0,e101,hx101_0,hl101_0,hi101_0⟩ := at_L2 HR1.out x13_1 p101 q101;cases e101;replace hx101_0 := ZX HB hx101_0;have HR101_0 := ZA hi101_0;have HC101_0 := ZA hl101_0;clear hi101_0 hl101_0;replace p101 := eq_true p101;replace q101 := eq_true q101;go_wp2
   go_loopg [20] k1 (fun kq v20 w' => ∃ (x20_2 : Int),v20 = .int .i64 x20_2 ∧ Aside0 (spec_leUntaught.l1 kq l0 x6_1 x13_1 (rd_L2 l1 x13_1) l1 (l1.length : Int) x13_1 (rd_L2 l1 x13_1) ((rd_L2 l1 x13_1).length : Int) x20_2 = some (r1,r2)) ∧ Aside0 (kq <= k1) ∧ Aside0 (Kd.R (Kd.int .i64) 3 w' w.heap.size (fun _ => True) u6 x6_1) ∧ Aside0 (Below w.heap.size w w'))
   case atStart => exact ⟨(0),ZG,H',⟨Nat.le_refl _⟩,⟨ZK HO_6⟩,⟨ZQ HB⟩⟩
   case round =>
    clear H';obtain ⟨x20_2,rfl,HA,HK2,HO_6,HB⟩ := hrel;cases gk with
    | zero => exact absurd HA.out (by simp [spec_leUntaught.l1])
    | succ k2 =>
     have H := HA.out;clear HA;simp only [spec_leUntaught.l1] at H;replace H := YI H;rcases H with ⟨c6b0,H⟩|⟨c6b0,H⟩;rotate_left
     ·by_cases c13 : x6_1.length + (rd_L2 l1 x13_1).length < 17592186044416;rotate_left
      ·rw [if_neg c13] at H;exact absurd H (by simp)
      rw [if_pos c13] at H;have LMc13 := ZA c13;clear c13;obtain ⟨y104,hy104⟩ : ∃ y_ : List Int,y_ = (x6_1 ++ (rd_L2 l1 x13_1)) := ⟨_,rfl⟩;replace H : (spec_leUntaught.l0 k2 l0 y104 l1 (l1.length : Int) (wrap64 (x13_1 + 1))) = some (r1,r2) := YH hy104 H;have Ny104 := ZA hy104;clear hy104;have H' := ZA H;clear H
      go_wp2_with (first|((with_reducible refine gate_builtin (b := .append) (xs := #[.tmp 32,.tmp 33]) rfl ?_);at_builtin;refine Kd.R_append_rows (Kd.int .i64) (w0 := w) w.heap.size rfl (.tmp 32) (.tmp 33) 28 3 (.int .i64 0) 8 rfl Tryz.underlying28 info3 rfl (by decide) (by omega) u6 x6_1 (rd_L2 l1 x13_1) _ _ _ (fun _ => True) (fun _ => False) rfl rfl (ZK HO_6) (ZR (Kd.C_below HR101_0.out HB.out)) (fun _ _ h => h) (fun _ h => h.elim) (fun _ _ => trivial) (ZQ HB) (SZ HB) ?aL ?_;(case aL => have := LMc13.out;omega);intro v105 w14 ho hb hg hat;rw [<- Ny104.out] at ho;replace HB := ZA (hb);have HO106 := ZA (ho);clear HO_6;clear ho hb hg hat))
      go_roundg k2
      case measure => have := HK1.out;have := HK2.out;omega
      case rel => exact ⟨(y104),(wrap64 (x13_1 + 1)),ZG,H',⟨by have := HK1.out;have := HK2.out;omega⟩,⟨ZK HO106⟩,⟨ZQ HB⟩⟩
     replace H := YN H;obtain ⟨c7b0,H⟩ := H;replace H := YN H;obtain ⟨c8b0,H⟩ := H;replace H := YJ H;obtain ⟨t103,A9,H⟩ := H;replace H := YF H;rcases H with ⟨rfl,H⟩|⟨rfl,H⟩;rotate_left
     ·simp only [Option.some.injEq,Prod.mk.injEq] at H;obtain ⟨rfl,rfl⟩ := H;have p102 : 0 <= (x20_2 : Int) := ZD;have q102 : x20_2 < ((rd_L2 l1 x13_1).length : Int) := ZD;obtain ⟨ad102,e102,hx102_0⟩ := Kd.at_int HR101_0.out x20_2 p102 q102;cases e102;replace hx102_0 := ZX HB hx102_0;replace p102 := eq_true p102;replace q102 := eq_true q102;obtain ⟨Ao12,co12,eo12⟩ := Kd.R_slice HO_6.out;subst eo12
      go_wp2_with (first|((with_reducible refine YG 150 ?_);refine YC (some 27) Tryz.func150 #[.slice A0 l0.length c0,.slice Ao12 x6_1.length co12,.int .i64 (rd (rd_L2 l1 x13_1) x20_2)] (spec_leReady.calls k2 _ _ l0 _ _ x6_1 (rd (rd_L2 l1 x13_1) x20_2) false _ (ZR (Kd.C_below HR0.out HB.out)) HC0.out (WR HO_6) (CR HO_6) A9.out) ?_;rintro e w' ⟨rfl,⟨nd,rfl⟩⟩;refine ⟨_,rfl,?_⟩))
      go_ret2;exact ⟨YR,ZQ HB⟩
     have H' := ZA H;clear H;have p102 : 0 <= (x20_2 : Int) := ZD;have q102 : x20_2 < ((rd_L2 l1 x13_1).length : Int) := ZD;obtain ⟨ad102,e102,hx102_0⟩ := Kd.at_int HR101_0.out x20_2 p102 q102;cases e102;replace hx102_0 := ZX HB hx102_0;replace p102 := eq_true p102;replace q102 := eq_true q102;obtain ⟨Ao11,co11,eo11⟩ := Kd.R_slice HO_6.out;subst eo11
     go_wp2_with (first|((with_reducible refine YG 150 ?_);refine YC (some 27) Tryz.func150 #[.slice A0 l0.length c0,.slice Ao11 x6_1.length co11,.int .i64 (rd (rd_L2 l1 x13_1) x20_2)] (spec_leReady.calls k2 _ _ l0 _ _ x6_1 (rd (rd_L2 l1 x13_1) x20_2) true _ (ZR (Kd.C_below HR0.out HB.out)) HC0.out (WR HO_6) (CR HO_6) A9.out) ?_;rintro e w' ⟨rfl,⟨nd,rfl⟩⟩;refine ⟨_,rfl,?_⟩))
     go_roundg k2
     case measure => have := HK1.out;have := HK2.out;omega
     case rel => exact ⟨(wrap64 (x20_2 + 1)),ZG,H',⟨by have := HK1.out;have := HK2.out;omega⟩,⟨ZK HO_6⟩,⟨ZQ HB⟩⟩
def spec_leAre.l0 : Nat -> List (S41) -> List (List Int) -> Int -> List (List Int) -> Int -> Int -> Option (Bool)
 | 0,_,_,_,_,_,_ => none
 | k + 1,x0,x1,x5,x14,x15,x16 => if x16 < x15 then (if 0 <= x16 then (if x16 < (x14.length : Int) then (if ((rd_L2 x14 x16).length : Int) = 0 then (some false) else (spec_leAre.l0 k x0 x1 (wrap64 (x5 + ((rd_L2 x14 x16).length : Int))) x14 x15 (wrap64 (x16 + 1)))) else (none)) else (none)) else ((spec_leUntaught.f k x0 x1).bind fun bt103 => (if x5 = (x0.length : Int) then (some (decide (bt103.1 < 0))) else (some false)))
def spec_leAre.f (k : Nat) (l0 : List (S41)) (l1 : List (List Int)) : Option (Bool) := (spec_leFair.f k l0 l1).bind fun t101 => (if t101 = true then (spec_leAre.l0 k l0 l1 0 l1 (l1.length : Int) 0) else (some false))
set_option maxHeartbeats 3000000 in
set_option maxRecDepth 100000 in
theorem spec_leAre.calls (k : Nat) (A0 : Option Addr) (c0 : Nat) (l0 : List (S41)) (A1 : Option Addr) (c1 : Nat) (l1 : List (List Int)) (r : Bool) (w : World) (hr0 : Kd.C k41 w A0 l0.length l0) (hc0 : l0.length <= c0) (hr1 : Kd.C (Kd.slice 3 (Kd.int .i64)) w A1 l1.length l1) (hc1 : l1.length <= c1) (h : spec_leAre.f k l0 l1 = some r) :
  Calls Tryz.prog 87 #[.slice A0 l0.length c0,.slice A1 l1.length c1] w fun e w' => e = .returned (.bool r) ∧ Below w.heap.size w w' := by
 have HR0 := ZA hr0;have HC0 := ZA hc0;clear hr0 hc0;have HR1 := ZA hr1;have HC1 := ZA hc1;clear hr1 hc1;have HB := ZA (Below.refl w.heap.size w);have H := h;clear h;unfold spec_leAre.f at H;replace H := YJ H;obtain ⟨t101,A3,H⟩ := H;replace H := YF H;rcases H with ⟨rfl,H⟩|⟨rfl,H⟩;rotate_left
 ·obtain rfl := Option.some.inj H;go_enter Tryz.func87,Tryz.ntmps87
  go_wp2_with (first|((with_reducible refine YG 102 ?_);refine YC (some 12) Tryz.func102 #[.slice A0 l0.length c0,.slice A1 l1.length c1] (spec_leFair.calls k _ _ l0 _ _ l1 false _ (ZR HR0.out) HC0.out (ZR HR1.out) HC1.out A3.out) ?_;rintro e w14 ⟨rfl,hb⟩;refine ⟨_,rfl,?_⟩;replace HB := BS HB hb))
  go_ret;exact ⟨YR,ZQ HB⟩
 have H' := ZA H;clear H;go_enter Tryz.func87,Tryz.ntmps87
 go_wp2_with (first|((with_reducible refine YG 102 ?_);refine YC (some 12) Tryz.func102 #[.slice A0 l0.length c0,.slice A1 l1.length c1] (spec_leFair.calls k _ _ l0 _ _ l1 true _ (ZR HR0.out) HC0.out (ZR HR1.out) HC1.out A3.out) ?_;rintro e w5 ⟨rfl,hb⟩;refine ⟨_,rfl,?_⟩;replace HB := BS HB hb))
 go_loopg [5,16] k (fun kq v5 v16 w' => ∃ (x5_1 : Int) (x16_1 : Int),v5 = .int .i64 x5_1 ∧ v16 = .int .i64 x16_1 ∧ Aside0 (spec_leAre.l0 kq l0 l1 x5_1 l1 (l1.length : Int) x16_1 = some r) ∧ Aside0 (kq <= k) ∧ Aside0 (Below w.heap.size w w'))
 case atStart => exact ⟨(0),(0),ZG,ZG,H',⟨Nat.le_refl _⟩,⟨ZQ HB⟩⟩
 case round =>
  clear H';obtain ⟨x5_1,x16_1,rfl,rfl,HA,HK1,HB⟩ := hrel;cases gk with
  | zero => exact absurd HA.out (by simp [spec_leAre.l0])
  | succ k1 =>
   have H := HA.out;clear HA;simp only [spec_leAre.l0] at H;by_cases c6 : x16_1 < (l1.length : Int)
   ·rw [if_pos c6] at H;have c6b0 := decide_eq_true c6;clear c6;replace H := YN H;obtain ⟨c7b0,H⟩ := H;replace H := YN H;obtain ⟨c8b0,H⟩ := H;by_cases c9 : ((rd_L2 l1 x16_1).length : Int) = 0
    ·rw [if_pos c9] at H;have c9b0 : (((rd_L2 l1 x16_1).length : Int) == 0) = true := beq_iff_eq.mpr c9;have c9b1 : (((rd_L2 l1 x16_1).length : Int) != 0) = false := bne_eq_false_iff_eq.mpr c9;clear c9;obtain rfl := Option.some.inj H;have p102 : 0 <= (x16_1 : Int) := ZD;have q102 : x16_1 < (l1.length : Int) := ZD;obtain ⟨ad102,A102_0,c102_0,e102,hx102_0,hl102_0,hi102_0⟩ := at_L2 HR1.out x16_1 p102 q102;cases e102;replace hx102_0 := ZX HB hx102_0;have HR102_0 := ZA hi102_0;have HC102_0 := ZA hl102_0;clear hi102_0 hl102_0;replace p102 := eq_true p102;replace q102 := eq_true q102;go_wp2;go_ret;exact ⟨YR,ZQ HB⟩
    rw [if_neg c9] at H;have c9b0 : (((rd_L2 l1 x16_1).length : Int) == 0) = false := beq_eq_false_iff_ne.mpr c9;have c9b1 : (((rd_L2 l1 x16_1).length : Int) != 0) = true := bne_iff_ne.mpr c9;have c9b2 : ¬ ((rd_L2 l1 x16_1) = []) := fun h_ => c9 (by rw [h_];rfl)
    have H' := ZA H;clear H;have p102 : 0 <= (x16_1 : Int) := ZD;have q102 : x16_1 < (l1.length : Int) := ZD;obtain ⟨ad102,A102_0,c102_0,e102,hx102_0,hl102_0,hi102_0⟩ := at_L2 HR1.out x16_1 p102 q102;cases e102;replace hx102_0 := ZX HB hx102_0;have HR102_0 := ZA hi102_0;have HC102_0 := ZA hl102_0;clear hi102_0 hl102_0;replace p102 := eq_true p102;replace q102 := eq_true q102;go_wp2
    go_roundg k1
    case measure => have := HK1.out;omega
    case rel => exact ⟨(wrap64 (x5_1 + ((rd_L2 l1 x16_1).length : Int))),(wrap64 (x16_1 + 1)),ZG,ZG,H',⟨by have := HK1.out;omega⟩,⟨ZQ HB⟩⟩
   rw [if_neg c6] at H;have c6b0 := decide_eq_false c6;clear c6;replace H := YJ H;obtain ⟨⟨t103,t104⟩,A10,H⟩ := H;try dsimp only at H
   by_cases c11 : x5_1 = (l0.length : Int);rotate_left
   ·rw [if_neg c11] at H;have c11b0 : (x5_1 == (l0.length : Int)) = false := beq_eq_false_iff_ne.mpr c11;have c11b1 : (x5_1 != (l0.length : Int)) = true := bne_iff_ne.mpr c11;obtain rfl := Option.some.inj H
    go_wp2_with (first|((with_reducible refine YG 103 ?_);refine YC (some 31) Tryz.func103 #[.slice A0 l0.length c0,.slice A1 l1.length c1] (spec_leUntaught.calls k1 _ _ l0 _ _ l1 t103 t104 _ (ZR (Kd.C_below HR0.out HB.out)) HC0.out (ZR (Kd.C_below HR1.out HB.out)) HC1.out A10.out) ?_;rintro e w13 ⟨rfl,hb⟩;refine ⟨_,rfl,?_⟩;replace HB := BS HB hb))
    go_ret;exact ⟨YR,ZQ HB⟩
   rw [if_pos c11] at H;have c11b0 : (x5_1 == (l0.length : Int)) = true := beq_iff_eq.mpr c11;have c11b1 : (x5_1 != (l0.length : Int)) = false := bne_eq_false_iff_eq.mpr c11;clear c11;obtain rfl := Option.some.inj H
   go_wp2_with (first|((with_reducible refine YG 103 ?_);refine YC (some 31) Tryz.func103 #[.slice A0 l0.length c0,.slice A1 l1.length c1] (spec_leUntaught.calls k1 _ _ l0 _ _ l1 t103 t104 _ (ZR (Kd.C_below HR0.out HB.out)) HC0.out (ZR (Kd.C_below HR1.out HB.out)) HC1.out A10.out) ?_;rintro e w12 ⟨rfl,hb⟩;refine ⟨_,rfl,?_⟩;replace HB := BS HB hb))
   go_ret;exact ⟨YR,ZQ HB⟩
def spec_leTotal.l0 : Nat -> Int -> List (S41) -> Int -> Int -> Option (Int)
 | 0,_,_,_,_ => none
 | k + 1,x3,x6,x7,x8 => if x8 < x7 then (if 0 <= x8 then (if x8 < (x6.length : Int) then (spec_leTotal.l0 k (wrap64 (x3 + ((rd_T41 x6 x8).f2))) x6 x7 (wrap64 (x8 + 1))) else (none)) else (none)) else (some x3)
def spec_leTotal.f (k : Nat) (l0 : List (S41)) : Option (Int) := spec_leTotal.l0 k 0 l0 (l0.length : Int) 0
set_option maxHeartbeats 3000000 in
set_option maxRecDepth 100000 in
theorem spec_leTotal.calls (k : Nat) (A0 : Option Addr) (c0 : Nat) (l0 : List (S41)) (r : Int) (w : World) (hr0 : Kd.C k41 w A0 l0.length l0) (hc0 : l0.length <= c0) (h : spec_leTotal.f k l0 = some r) :
  Calls Tryz.prog 88 #[.slice A0 l0.length c0] w fun e w' => e = .returned (.int .i64 r) ∧ Below w.heap.size w w' := by
 have hu41 := Tryz.underlying41;have HR0 := ZA hr0;have HC0 := ZA hc0;clear hr0 hc0;have HB := ZA (Below.refl w.heap.size w);have H : (spec_leTotal.l0 k 0 l0 (l0.length : Int) 0) = some r := h;clear h;have H' := ZA H;clear H;go_enter Tryz.func88,Tryz.ntmps88;go_wp2
 go_loopg [3,8] k (fun kq v3 v8 w' => ∃ (x3_1 : Int) (x8_1 : Int),v3 = .int .i64 x3_1 ∧ v8 = .int .i64 x8_1 ∧ Aside0 (spec_leTotal.l0 kq x3_1 l0 (l0.length : Int) x8_1 = some r) ∧ Aside0 (kq <= k) ∧ Aside0 (Below w.heap.size w w'))
 case atStart => exact ⟨(0),(0),ZG,ZG,H',⟨Nat.le_refl _⟩,⟨ZQ HB⟩⟩
 case round =>
  clear H';obtain ⟨x3_1,x8_1,rfl,rfl,HA,HK1,HB⟩ := hrel;cases gk with
  | zero => exact absurd HA.out (by simp [spec_leTotal.l0])
  | succ k1 =>
   have H := HA.out;clear HA;simp only [spec_leTotal.l0] at H;replace H := YI H;rcases H with ⟨c2b0,H⟩|⟨c2b0,H⟩;rotate_left
   ·obtain rfl := Option.some.inj H;go_wp2;go_ret;exact ⟨YR,ZQ HB⟩
   replace H := YN H;obtain ⟨c3b0,H⟩ := H;replace H := YN H;obtain ⟨c4b0,H⟩ := H;have H' := ZA H;clear H;have p101 : 0 <= (x8_1 : Int) := ZD;have q101 : x8_1 < (l0.length : Int) := ZD;obtain ⟨ad101,A101_1,c101_1,e101,hx101_0,hx101_1,hx101_2,hl101_1,hi101_1⟩ := at_T41 HR0.out x8_1 p101 q101;cases e101;replace hx101_0 := ZX HB hx101_0;replace hx101_1 := ZX HB hx101_1;replace hx101_2 := ZX HB hx101_2;have HR101_1 := ZA hi101_1;have HC101_1 := ZA hl101_1;clear hi101_1 hl101_1;replace p101 := eq_true p101;replace q101 := eq_true q101
   go_wp2_with (first|((with_reducible refine gate_dst (N := 5) rfl ?_);refine ZE 5 #[.string (⟨#[]⟩ : ByteArray),.slice none 0 0,.int .i64 0] 41 ?_;intro gb102 hg w5 hbox hb;have BK102 := ZA (hbox);have GW102 := YQ hg HB;have GE102 := YQ hg HB;replace HB := BS HB hb;clear hb hbox hg;have hcz6_0 : w5.cell? ⟨gb102,0,none⟩ = some (.string (⟨#[]⟩ : ByteArray)) := ZC BK102 0 rfl;have hcz6_1 : w5.cell? ⟨gb102,1,none⟩ = some (.slice none 0 0) := ZC BK102 1 rfl;have hcz6_2 : w5.cell? ⟨gb102,2,none⟩ = some (.int .i64 0) := ZC BK102 2 rfl;have hfz6_0 := blk_frozen BK102.out 0;have hfz6_1 := blk_frozen BK102.out 1;have hfz6_2 := blk_frozen BK102.out 2))
   go_roundg k1
   case measure => have := HK1.out;omega
   case rel => exact ⟨(wrap64 (x3_1 + ((rd_T41 l0 x8_1).f2))),(wrap64 (x8_1 + 1)),ZG,ZG,H',⟨by have := HK1.out;omega⟩,⟨ZQ HB⟩⟩
def spec_leUses.l0 : Nat -> List (S41) -> Int -> List Int -> Int -> Int -> Option (Int)
 | 0,_,_,_,_,_ => none
 | k + 1,x0,x5,x8,x9,x10 => if x10 < x9 then (if 0 <= x10 then (if x10 < (x8.length : Int) then (if 0 <= (rd x8 x10) then (if (rd x8 x10) < (x0.length : Int) then (spec_leUses.l0 k x0 (wrap64 (x5 + ((rd_T41 x0 (rd x8 x10)).f2))) x8 x9 (wrap64 (x10 + 1))) else (none)) else (none)) else (none)) else (none)) else (some x5)
def spec_leUses.f (k : Nat) (l0 : List (S41)) (l1 : List Int) : Option (Int) := spec_leUses.l0 k l0 0 l1 (l1.length : Int) 0
set_option maxHeartbeats 3000000 in
set_option maxRecDepth 100000 in
theorem spec_leUses.calls (k : Nat) (A0 : Option Addr) (c0 : Nat) (l0 : List (S41)) (A1 : Option Addr) (c1 : Nat) (l1 : List Int) (r : Int) (w : World) (hr0 : Kd.C k41 w A0 l0.length l0) (hc0 : l0.length <= c0) (hr1 : Kd.C (Kd.int .i64) w A1 l1.length l1) (hc1 : l1.length <= c1) (h : spec_leUses.f k l0 l1 = some r) :
  Calls Tryz.prog 89 #[.slice A0 l0.length c0,.slice A1 l1.length c1] w fun e w' => e = .returned (.int .i64 r) ∧ Drawn0 w w' := by
 have HR0 := ZA hr0;have HC0 := ZA hc0;clear hr0 hc0;have HR1 := ZA hr1;have HC1 := ZA hc1;clear hr1 hc1;have H : (spec_leUses.l0 k l0 0 l1 (l1.length : Int) 0) = some r := h;clear h;have H' := ZA H;clear H;go_enter Tryz.func89,Tryz.ntmps89;go_wp2
 go_loopg [5,10] k (fun kq v5 v10 w' => ∃ (x5_1 : Int) (x10_1 : Int),v5 = .int .i64 x5_1 ∧ v10 = .int .i64 x10_1 ∧ Aside0 (spec_leUses.l0 kq l0 x5_1 l1 (l1.length : Int) x10_1 = some r) ∧ Aside0 (kq <= k) ∧ Drawn0 w w')
 case atStart => exact ⟨(0),(0),ZG,ZG,H',⟨Nat.le_refl _⟩,by repeat (first|exact Drawn0.refl _|apply Drawn0.step)⟩
 case round =>
  clear H';obtain ⟨x5_1,x10_1,rfl,rfl,HA,HK1,⟨m1,rfl⟩⟩ := hrel;cases gk with
  | zero => exact absurd HA.out (by simp [spec_leUses.l0])
  | succ k1 =>
   have H := HA.out;clear HA;simp only [spec_leUses.l0] at H;replace H := YI H;rcases H with ⟨c3b0,H⟩|⟨c3b0,H⟩;rotate_left
   ·obtain rfl := Option.some.inj H;go_wp2;go_ret;exact ⟨by first|rfl|(simp;done)|(simp [*];done),by repeat (first|exact Drawn0.refl _|apply Drawn0.step)⟩
   replace H := YN H;obtain ⟨c4b0,H⟩ := H;replace H := YN H;obtain ⟨c5b0,H⟩ := H;replace H := YN H;obtain ⟨c6b0,H⟩ := H;replace H := YN H;obtain ⟨c7b0,H⟩ := H;have H' := ZA H;clear H;have p101 : 0 <= (x10_1 : Int) := ZD;have q101 : x10_1 < (l1.length : Int) := ZD;obtain ⟨ad101,e101,hx101_0⟩ := Kd.at_int HR1.out x10_1 p101 q101;cases e101;replace p101 := eq_true p101;replace q101 := eq_true q101;have p102 : 0 <= ((rd l1 x10_1) : Int) := ZD;have q102 : (rd l1 x10_1) < (l0.length : Int) := ZD;obtain ⟨ad102,A102_1,c102_1,e102,hx102_0,hx102_1,hx102_2,hl102_1,hi102_1⟩ := at_T41 HR0.out (rd l1 x10_1) p102 q102;cases e102;have HR102_1 := ZA hi102_1;have HC102_1 := ZA hl102_1;clear hi102_1 hl102_1;replace p102 := eq_true p102;replace q102 := eq_true q102;go_wp2
   go_roundg k1
   case measure => have := HK1.out;omega
   case rel => exact ⟨(wrap64 (x5_1 + ((rd_T41 l0 (rd l1 x10_1)).f2))),(wrap64 (x10_1 + 1)),ZG,ZG,H',⟨by have := HK1.out;omega⟩,by repeat (first|exact Drawn0.refl _|apply Drawn0.step)⟩
mutual
def spec_CoverageAfter.j0 : Nat -> List (S41) -> List (List Int) -> Int -> Bool -> Option (Int × Bool)
 | 0,_,_,_,_ => none
 | k + 1,x0,x1,x2,x31 => if x31 = true then (some (0,false)) else (if 0 <= x2 then (if x2 <= (x1.length : Int) then ((some (x1.take (x2 : Int).toNat : List (List Int))).bind fun y105 => (spec_CoverageAfter.l0 k x0 0 y105 (y105.length : Int) 0)) else (none)) else (none))
def spec_CoverageAfter.l0 : Nat -> List (S41) -> Int -> List (List Int) -> Int -> Int -> Option (Int × Bool)
 | 0,_,_,_,_,_ => none
 | k + 1,x0,x8,x34,x35,x36 => if x36 < x35 then (if 0 <= x36 then (if x36 < (x34.length : Int) then ((spec_leUses.f k x0 (rd_L2 x34 x36)).bind fun t110 => (spec_CoverageAfter.l0 k x0 (wrap64 (x8 + t110)) x34 x35 (wrap64 (x36 + 1)))) else (none)) else (none)) else ((spec_leTotal.f k x0).bind fun t111 => (if t111 = 0 then (none) else (some (wrap64 (Int.tdiv (wrap64 (100 * x8)) t111),true))))
end
def spec_CoverageAfter.f (k : Nat) (l0 : List (S41)) (l1 : List (List Int)) (a2 : Int) : Option (Int × Bool) := (spec_leGood.f k l0).bind fun t101 => (if t101 = true then ((spec_leAre.f k l0 l1).bind fun t102 => (if t102 = true then ((spec_l1In.f a2 0 (l1.length : Int)).bind fun t103 => (if t103 = true then ((spec_leTotal.f k l0).bind fun t104 => (spec_CoverageAfter.j0 k l0 l1 a2 (t104 == 0))) else (spec_CoverageAfter.j0 k l0 l1 a2 true))) else (spec_CoverageAfter.j0 k l0 l1 a2 true))) else (spec_CoverageAfter.j0 k l0 l1 a2 true))
set_option maxHeartbeats 3000000 in
set_option maxRecDepth 100000 in
theorem spec_CoverageAfter.calls (k : Nat) (A0 : Option Addr) (c0 : Nat) (l0 : List (S41)) (A1 : Option Addr) (c1 : Nat) (l1 : List (List Int)) (a2 : Int) (r1 : Int) (r2 : Bool) (w : World) (hr0 : Kd.C k41 w A0 l0.length l0) (hc0 : l0.length <= c0) (hr1 : Kd.C (Kd.slice 3 (Kd.int .i64)) w A1 l1.length l1) (hc1 : l1.length <= c1) (h : spec_CoverageAfter.f k l0 l1 a2 = some (r1,r2)) :
  Calls Tryz.prog 28 #[.slice A0 l0.length c0,.slice A1 l1.length c1,.int .i64 a2] w fun e w' => e = .returned (.tuple #[.int .i64 r1,.bool r2]) ∧ Below w.heap.size w w' := by
 have HR0 := ZA hr0;have HC0 := ZA hc0;clear hr0 hc0;have HR1 := ZA hr1;have HC1 := ZA hc1;clear hr1 hc1;have HB := ZA (Below.refl w.heap.size w);have H := h;clear h;unfold spec_CoverageAfter.f at H;have HC4 := ZA H;clear H;go_enter Tryz.func28,Tryz.ntmps28
 go_upto_region 1 with (fail)
 go_cut [31] (fun v31 wc => ∃ (kq : Nat) (x31_3 : Bool),v31 = .bool x31_3 ∧ Aside0 (spec_CoverageAfter.j0 kq l0 l1 a2 x31_3 = some (r1,r2)) ∧ Aside0 (kq <= k) ∧ Aside0 (Below w.heap.size w wc))
 case first =>
  have H := HC4.out;clear HC4;replace H := YJ H;obtain ⟨t101,A5,H⟩ := H;replace H := YF H;rcases H with ⟨rfl,H⟩|⟨rfl,H⟩;rotate_left
  ·have H' := ZA H;clear H
   go_wp2_with (first|((with_reducible refine YG 78 ?_);refine YC (some 12) Tryz.func78 #[.slice A0 l0.length c0] (spec_leGood.calls k _ _ l0 false _ (ZR (Kd.C_below HR0.out HB.out)) HC0.out A5.out) ?_;rintro e w19 ⟨rfl,hb⟩;refine ⟨_,rfl,?_⟩;replace HB := BS HB hb))
   go_meet
   case rel => exact ⟨_,(true),ZG,H',⟨YO⟩,⟨ZQ HB⟩⟩
  replace H := YJ H;obtain ⟨t102,A7,H⟩ := H;replace H := YF H;rcases H with ⟨rfl,H⟩|⟨rfl,H⟩;rotate_left
  ·have H' := ZA H;clear H
   go_wp2_with (first|((with_reducible refine YG 78 ?_);refine YC (some 12) Tryz.func78 #[.slice A0 l0.length c0] (spec_leGood.calls k _ _ l0 true _ (ZR (Kd.C_below HR0.out HB.out)) HC0.out A5.out) ?_;rintro e w17 ⟨rfl,hb⟩;refine ⟨_,rfl,?_⟩;replace HB := BS HB hb)|(go_at_call 87;(with_reducible refine (spec_leAre.calls k _ _ l0 _ _ l1 false _ (ZR (Kd.C_below HR0.out HB.out)) HC0.out (ZR (Kd.C_below HR1.out HB.out)) HC1.out A7.out).mono ?_);rintro e w18 ⟨rfl,hb⟩;replace HB := BS HB hb))
   go_meet
   case rel => exact ⟨_,(true),ZG,H',⟨YO⟩,⟨ZQ HB⟩⟩
  replace H := YJ H;obtain ⟨t103,A9,H⟩ := H;replace H := YF H;rcases H with ⟨rfl,H⟩|⟨rfl,H⟩;rotate_left
  ·have H' := ZA H;clear H
   go_wp2_with (first|((with_reducible refine YG 78 ?_);refine YC (some 12) Tryz.func78 #[.slice A0 l0.length c0] (spec_leGood.calls k _ _ l0 true _ (ZR (Kd.C_below HR0.out HB.out)) HC0.out A5.out) ?_;rintro e w15 ⟨rfl,hb⟩;refine ⟨_,rfl,?_⟩;replace HB := BS HB hb)|(go_at_call 87;(with_reducible refine (spec_leAre.calls k _ _ l0 _ _ l1 true _ (ZR (Kd.C_below HR0.out HB.out)) HC0.out (ZR (Kd.C_below HR1.out HB.out)) HC1.out A7.out).mono ?_);rintro e w16 ⟨rfl,hb⟩;replace HB := BS HB hb)|(go_at_call 65;(with_reducible refine (spec_l1In.calls a2 0 (l1.length : Int) false _ A9.out).mono ?_);rintro e w' ⟨rfl,⟨nd,rfl⟩⟩))
   go_meet
   case rel => exact ⟨_,(true),ZG,H',⟨YO⟩,⟨ZQ HB⟩⟩
  replace H := YJ H;obtain ⟨t104,A11,H⟩ := H;have H' := ZA H;clear H
  go_wp2_with (first|((with_reducible refine YG 78 ?_);refine YC (some 12) Tryz.func78 #[.slice A0 l0.length c0] (spec_leGood.calls k _ _ l0 true _ (ZR (Kd.C_below HR0.out HB.out)) HC0.out A5.out) ?_;rintro e w12 ⟨rfl,hb⟩;refine ⟨_,rfl,?_⟩;replace HB := BS HB hb)|(go_at_call 87;(with_reducible refine (spec_leAre.calls k _ _ l0 _ _ l1 true _ (ZR (Kd.C_below HR0.out HB.out)) HC0.out (ZR (Kd.C_below HR1.out HB.out)) HC1.out A7.out).mono ?_);rintro e w13 ⟨rfl,hb⟩;replace HB := BS HB hb)|(go_at_call 65;(with_reducible refine (spec_l1In.calls a2 0 (l1.length : Int) true _ A9.out).mono ?_);rintro e w' ⟨rfl,⟨nd,rfl⟩⟩)|(go_at_call 88;(with_reducible refine (spec_leTotal.calls k _ _ l0 t104 _ (ZR (Kd.C_below HR0.out (ZQ HB))) HC0.out A11.out).mono ?_);rintro e w14 ⟨rfl,hb⟩;replace HB := BS HB hb))
  go_meet
  case rel => exact ⟨_,((t104 == 0)),ZG,H',⟨YO⟩,⟨ZQ HB⟩⟩
 case rest =>
  clear HC4;obtain ⟨kq,x31_3,rfl,HA,HJ3,HB⟩ := hcut;cases kq with
  | zero => exact absurd HA.out (by simp [spec_CoverageAfter.j0])
  | succ kj3 =>
   have H := HA.out;clear HA;simp only [spec_CoverageAfter.j0] at H;by_cases c20 : x31_3 = true
   ·subst c20;rw [if_pos rfl] at H;simp only [Option.some.injEq,Prod.mk.injEq] at H;obtain ⟨rfl,rfl⟩ := H;go_wp2;go_ret2;exact ⟨YR,ZQ HB⟩
   replace c20 := Bool.eq_false_iff.mpr c20;subst c20;rw [if_neg (show ¬ (false = true) by decide)] at H;replace H := YM H;obtain ⟨c21,H⟩ := H;have c21b0 := eq_true c21;have c21b1 := decide_eq_true c21;clear c21;replace H := YM H;obtain ⟨c22,H⟩ := H;have c22b0 := eq_true c22;have c22b1 := decide_eq_true c22;clear c22;obtain ⟨y105,hy105⟩ : ∃ y_ : List (List Int),y_ = (l1.take (a2 : Int).toNat) := ⟨_,rfl⟩;replace H : (spec_CoverageAfter.l0 kj3 l0 0 y105 (y105.length : Int) 0) = some (r1,r2) := YH hy105 H;have Ny105 := ZA hy105;clear hy105;have H' := ZA H;clear H;have q23 : (a2 : Int) <= ((l1.length : Int) : Int) := ZD;obtain ⟨i023,hi023,_,hsz23,_⟩ := info_parts info28;have hroom23 : l1.length <= c1 := HC1.out;have hC23 : Kd.C (Kd.slice 3 (Kd.int .i64)) _ A1 l1.length l1 := HR1.out;have hcut23 := cut_to (P := Tryz.prog) 25 28 .i64 Tryz.underlying25 hi023 A1 l1.length c1 a2 ZD q23 hroom23;have hr23 := Kd.C_take (m := (a2 : Int).toNat) hC23 (by omega);have hy23 : y105.length = (a2 : Int).toNat := (by rw [Ny105.out,List.length_take];omega);rw [<- Ny105.out] at hr23;rw [<- hy23] at hcut23;have HR108 := ZA hr23;have HC108 := ZA (show y105.length <= c1 from by omega);clear hr23 hC23 hroom23 hi023 hsz23;have KY23 := ZA hy23;clear hy23;replace q23 := eq_true q23;go_wp2
   go_loopg [8,36] kj3 (fun kq v8 v36 w' => ∃ (x8_2 : Int) (x36_2 : Int),v8 = .int .i64 x8_2 ∧ v36 = .int .i64 x36_2 ∧ Aside0 (spec_CoverageAfter.l0 kq l0 x8_2 y105 (y105.length : Int) x36_2 = some (r1,r2)) ∧ Aside0 (kq <= kj3) ∧ Aside0 (Below w.heap.size w w'))
   case atStart => exact ⟨(0),(0),ZG,ZG,H',⟨Nat.le_refl _⟩,⟨ZQ HB⟩⟩
   case round =>
    clear H';obtain ⟨x8_2,x36_2,rfl,rfl,HA,HK2,HB⟩ := hrel;cases gk with
    | zero => exact absurd HA.out (by simp [spec_CoverageAfter.l0])
    | succ k2 =>
     have H := HA.out;clear HA;simp only [spec_CoverageAfter.l0] at H;replace H := YI H;rcases H with ⟨c24b0,H⟩|⟨c24b0,H⟩;rotate_left
     ·replace H := ZI H;obtain ⟨t111,A280,H⟩ := H;have A28 := ZA A280;clear A280;by_cases c29 : t111 = 0
      ·rw [if_pos c29] at H;exact absurd H (by simp)
      rw [if_neg c29] at H;have c29b0 : (t111 == 0) = false := beq_eq_false_iff_ne.mpr c29;have c29b1 : (t111 != 0) = true := bne_iff_ne.mpr c29;simp only [Option.some.injEq,Prod.mk.injEq] at H;obtain ⟨rfl,rfl⟩ := H
      go_wp2_with (first|((with_reducible refine YG 88 ?_);refine YC (some 49) Tryz.func88 #[.slice A0 l0.length c0] (spec_leTotal.calls k2 _ _ l0 t111 _ (ZR (Kd.C_below HR0.out HB.out)) HC0.out A28.out) ?_;rintro e w30 ⟨rfl,hb⟩;refine ⟨_,rfl,?_⟩;replace HB := BS HB hb))
      go_ret2;exact ⟨YR,ZQ HB⟩
     replace H := YN H;obtain ⟨c25b0,H⟩ := H;replace H := YN H;obtain ⟨c26b0,H⟩ := H;replace H := YJ H;obtain ⟨t110,A27,H⟩ := H;have H' := ZA H;clear H;have p109 : 0 <= (x36_2 : Int) := ZD;have q109 : x36_2 < (y105.length : Int) := ZD;obtain ⟨ad109,A109_0,c109_0,e109,hx109_0,hl109_0,hi109_0⟩ := at_L2 HR108.out x36_2 p109 q109;cases e109;replace hx109_0 := ZX HB hx109_0;have HR109_0 := ZA hi109_0;have HC109_0 := ZA hl109_0;clear hi109_0 hl109_0;replace p109 := eq_true p109;replace q109 := eq_true q109
     go_wp2_with (first|((with_reducible refine YG 89 ?_);refine YC (some 43) Tryz.func89 #[.slice A0 l0.length c0,.slice A109_0 (rd_L2 y105 x36_2).length c109_0] (spec_leUses.calls k2 _ _ l0 _ _ (rd_L2 y105 x36_2) t110 _ (ZR (Kd.C_below HR0.out HB.out)) HC0.out (ZR (Kd.C_below HR109_0.out HB.out)) HC109_0.out A27.out) ?_;rintro e w' ⟨rfl,⟨nd,rfl⟩⟩;refine ⟨_,rfl,?_⟩))
     go_roundg k2
     case measure => have := HJ3.out;have := HK2.out;omega
     case rel => exact ⟨(wrap64 (x8_2 + t110)),(wrap64 (x36_2 + 1)),ZG,ZG,H',⟨by have := HJ3.out;have := HK2.out;omega⟩,⟨ZQ HB⟩⟩
def slices_Sort_int.srt (l : List Int) : List Int := l.mergeSort fun x y => decide (x <= y)
def slices_Sort_int.f (l0 : List Int) : Option (List Int) := if l0.length < 4611686018427387904 then some (slices_Sort_int.srt l0) else none
set_option maxHeartbeats 1000000
open Go.RowKit Go.Lib Go.Sort Go.Proofs.YtgnijnlgbelifaaGreatW.PrintWords Go.Proofs.YtgnijnlgbelifaaGreatW.PrintLast Go.Proofs.YtgnijnlgbelifaaGreatW.PrintMore Go.Proofs.YtgnijnlgbelifaaGreatW Go.Proofs.YtgnijnlgbelifaaGreat.Q Go.Proofs.YtgnijnlgbelifaaGreatW.GCall
theorem slices_Sort_int.nil_or {w : World} {base e n : Nat} {zs : List Int} (h : w.ownsRow base e 1 (.slice none 0 0) n (zs.map (Value.int .i64))) : zs = [] := by
 have hl : zs.length = n := by simpa using h.1
 rcases h.2 with ⟨_,h2⟩ | ⟨g,cap,cur,e0,_⟩
 ·exact List.eq_nil_of_length_eq_zero (by omega)
 cases e0
theorem slices_Sort_int.calls (P0_ : Nat -> Prop) (u9000_ : Value) (l0 : List Int) (r1 : List Int) (w0 w : World) (hB : Below w0.heap.size w0 w) (ho0 : Kd.R (Kd.int .i64) 3 w w0.heap.size P0_ u9000_ l0) (h : slices_Sort_int.f l0 = some r1) :
  Calls Tryz.prog 96 #[u9000_] w fun e w' => e = .returned (.tuple #[]) ∧ Kd.R (Kd.int .i64) 3 w' w0.heap.size (fun k_ => (P0_ k_ ∨ w.heap.size <= k_)) u9000_ r1 ∧ Below w0.heap.size w0 w' ∧ Kept w w' (fun k_ => P0_ k_) := by
 unfold slices_Sort_int.f at h
 split at h
 case isFalse => cases h
 rename_i hl
 obtain rfl := Option.some.inj h;clear h;have ho : w.ownsRow w0.heap.size 3 1 u9000_ l0.length (l0.map (Value.int .i64)) := Kd.own_of_R ho0;by_cases hv : u9000_ = .slice none 0 0
 ·subst hv;obtain rfl := slices_Sort_int.nil_or ho;refine (Tryz.slices_Sort_int_none none 0 w).mono ?_;rintro e w' ⟨rfl,rfl⟩;exact ⟨rfl,by simpa [slices_Sort_int.srt] using Kd.R_mono ho0 (fun k_ hk => .inl hk),hB,Kept.refl _ _⟩
 obtain ⟨g,cap,rfl,hb,hlt,hn,hm,_,hH⟩ := Lib.holds_of_ownsRow ho hv;refine (Tryz.slices_Sort_int g 0 cap l0 w hH hlt hl).mono ?_;rintro e w' ⟨rfl,n,os,rfl⟩;have hlen : (slices_Sort_int.srt l0).length = l0.length := by simp [slices_Sort_int.srt]
 have h1 := Lib.ownsRow_putRow (q := n) (k := l0.length) (ys := slices_Sort_int.srt l0) ho hlen (Nat.le_refl _);rw [List.take_of_length_le (by omega)] at h1;have hbel := below_grown (putRow (Value.int .i64) (Sort.ahead w n) g 0 (slices_Sort_int.srt l0).toArray) 0 os;have hz : (putRow (Value.int .i64) (Sort.ahead w n) g 0 (slices_Sort_int.srt l0).toArray).heap.size = w.heap.size := by simp [putRow,mapBlock,Sort.ahead]
 have hP : P0_ g := ho0.1 g (by simp [Value.ownBlock]);refine ⟨rfl,?_,?_,?_,?_⟩
 ·have h2 : Kd.R (Kd.int .i64) 3 (putRow (Value.int .i64) (Sort.ahead w n) g 0 (slices_Sort_int.srt l0).toArray) w0.heap.size (fun k_ => (P0_ k_ ∨ w.heap.size <= k_)) (.slice (some ⟨g,0,none⟩) l0.length cap) (slices_Sort_int.srt l0) := Kd.R_of_own (by rw [hlen];exact h1) (fun k hk => .inl (ho0.1 k hk));exact Kd.R_below h2 hbel
 ·have hp := Lib.below_putRow (enc := Value.int .i64) (q := n) (d := (slices_Sort_int.srt l0).toArray) hB hb;exact hp.trans (hbel.mono (by rw [hz];exact hB.size))
 ·exact Nat.le_trans (Nat.le_of_eq hz.symm) hbel.size
 intro i hi hni;refine (hbel.block i (by rw [hz];exact hi)).trans ?_;have hne : g ≠ i := fun e => hni (e ▸ hP)
 simp [putRow,mapBlock,Sort.ahead,Array.getElem?_modify,hne]
end Go.Proofs.YtgnijnlgbelifaaGreat.Q
