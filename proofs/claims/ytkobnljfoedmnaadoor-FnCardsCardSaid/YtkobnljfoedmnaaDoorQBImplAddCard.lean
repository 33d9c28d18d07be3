import Derived.Test.YtkobnljfoedmnaaDoorQBEq94
import Derived.Test.YtkobnljfoedmnaaDoorGUp
import Derived.Test.YtkobnljfoedmnaaDoorQBSlicesCloneImplCard
import Derived.Test.YtkobnljfoedmnaaDoorQSlicesSortFuncImplCard
namespace Go.Proofs.YtkobnljfoedmnaaDoor.Q
open Go.RowKit Go.Proofs.YtkobnljfoedmnaaDoorW.PrintWords Go.Proofs.YtkobnljfoedmnaaDoorW.PrintLast Go.Proofs.YtkobnljfoedmnaaDoorW.PrintMore Go.Proofs.YtkobnljfoedmnaaDoorW.GCall
attribute [local go_sem] max2_int min2_int max_two min_two max_three min_three max_four min_four
set_option linter.unusedVariables false
set_option linter.unusedSimpArgs false
def impl_AddCard.j0 : Nat -> List (S94) -> Bool -> ByteArray -> Int -> Int -> Option ((List (S94)) × Bool)
 | 0,_,_,_,_,_ => none
 | k + 1,x0,x20,x102000,x102001,x102002 => if x20 = true then (some (([] : List (S94)),false)) else ((slices_Clone_impl_Card.f x0).bind fun t104 => ((some (([(⟨x102000,x102001,x102002⟩ : S94)] : List (S94)) : List (S94))).bind fun y107 => (if t104.length + y107.length < 4398046511104 then ((slices_SortFunc_impl_Card.f (t104 ++ y107)).bind fun t113 => ((impl_AreCards.f k t113).bind fun t114 => (if t114 = true then (some (t113,true)) else (some (([] : List (S94)),false))))) else (none))))
def impl_AddCard.f (k : Nat) (l0 : List (S94)) (a1 : ByteArray) (a2 : Int) : Option ((List (S94)) × Bool) := (impl_AreCards.f k l0).bind fun t102 => (if t102 = true then ((impl_isCard.f k a1 0 a2).bind fun t103 => (impl_AddCard.j0 k l0 (!t103) a1 0 a2)) else (impl_AddCard.j0 k l0 true a1 0 a2))
set_option maxHeartbeats 3000000 in
set_option maxRecDepth 100000 in
theorem impl_AddCard.calls (k : Nat) (A0 : Option Addr) (c0 : Nat) (l0 : List (S94)) (a1 : ByteArray) (a2 : Int) (r1 : List (S94)) (r2 : Bool) (w : World) (hr0 : Kd.C k94 w A0 l0.length l0) (hc0 : l0.length <= c0) (h : impl_AddCard.f k l0 a1 a2 = some (r1,r2)) :
  Calls Tryd.prog 27 #[.slice A0 l0.length c0,.string a1,.int .i64 a2] w fun e w' => ∃ v0_ : Value,e = .returned (.tuple #[v0_,.bool r2]) ∧ Kd.R k94 94 w' w.heap.size (fun _ => True) v0_ r1 ∧ Below w.heap.size w w' := by
 have hu94 := Tryd.underlying94;have HR0 := ZA hr0;have HC0 := ZA hc0;clear hr0 hc0;have HB := ZA (Below.refl w.heap.size w);have H := h;clear h;unfold impl_AddCard.f at H;have HC4 := ZA H;clear H;go_enter Tryd.func27,Tryd.ntmps27
 go_upto_region 2 with (first|((with_reducible refine gate_dst (N := 8) rfl ?_);refine ZE 8 #[.string (⟨#[]⟩ : ByteArray),.int .i64 0,.int .i64 0] 94 ?_;intro gb101 hg w5 hbox hb;have BK101 := ZA (hbox);have GW101 := YQ hg HB;have GE101 := YQ hg HB;replace HB := BS HB hb;clear hb hbox hg;have hcz6_0 : w5.cell? ⟨gb101,0,none⟩ = some (.string (⟨#[]⟩ : ByteArray)) := ZC BK101 0 rfl;have hcz6_1 : w5.cell? ⟨gb101,1,none⟩ = some (.int .i64 0) := ZC BK101 1 rfl;have hcz6_2 : w5.cell? ⟨gb101,2,none⟩ = some (.int .i64 0) := ZC BK101 2 rfl;have hfz6_0 := blk_frozen BK101.out 0;have hfz6_1 := blk_frozen BK101.out 1;have hfz6_2 := blk_frozen BK101.out 2))
 (try simp only [Act.put,zuA,zuB,zuC])
 go_cut [20] (fun v20 wc => ∃ (kq : Nat) (x20_3 : Bool),v20 = .bool x20_3 ∧ Aside0 (impl_AddCard.j0 kq l0 x20_3 a1 0 a2 = some (r1,r2)) ∧ Aside0 (kq <= k) ∧ Aside0 (wc.heap[gb101]? = some (.cells #[.string a1,.int .i64 0,.int .i64 a2] 94 (0,0))) ∧ Aside0 (Below w.heap.size w wc))
 case first =>
  have H := HC4.out;clear HC4;replace H := YJ H;obtain ⟨t102,A7,H⟩ := H;try dsimp only at H
  replace H := YF H;rcases H with ⟨rfl,H⟩|⟨rfl,H⟩;rotate_left
  ·have H' := ZA H;clear H
   go_wp2_with (first|((with_reducible refine YG 41 ?_);refine YC (some 14) Tryd.func41 #[.slice A0 l0.length c0] (impl_AreCards.calls k _ _ l0 false _ (Kd.C_below HR0.out (ZQ HB)) HC0.out A7.out) ?_;rintro e w13 ⟨rfl,hb⟩;refine ⟨_,rfl,?_⟩;replace BK101 := ZA (blk_below (g := gb101) (o := .cells #[.string a1,.int .i64 0,.int .i64 a2] 94 (0,0)) (by refine ZY ?_;refine blk_put (cs := #[.string a1,.int .i64 0,.int .i64 0]) ?_ 2 _ rfl;refine ZY ?_;refine blk_put (cs := #[.string a1,.int .i64 0,.int .i64 0]) ?_ 1 _ rfl;refine ZY ?_;refine blk_put (cs := #[.string (⟨#[]⟩ : ByteArray),.int .i64 0,.int .i64 0]) ?_ 0 _ rfl;refine ZY ?_;exact BK101.out) hb);replace HB := BS HB hb))
   go_meet
   case rel => exact ⟨_,(true),ZG,H',⟨YO⟩,⟨ZH BK101⟩,⟨ZQ HB⟩⟩
  replace H := YJ H;obtain ⟨t103,A9,H⟩ := H;try dsimp only at H
  have H' := ZA H;clear H
  go_wp2_with (first|((with_reducible refine YG 41 ?_);refine YC (some 14) Tryd.func41 #[.slice A0 l0.length c0] (impl_AreCards.calls k _ _ l0 true _ (Kd.C_below HR0.out (ZQ HB)) HC0.out A7.out) ?_;rintro e w10 ⟨rfl,hb⟩;refine ⟨_,rfl,?_⟩;replace BK101 := ZA (blk_below (g := gb101) (o := .cells #[.string a1,.int .i64 0,.int .i64 a2] 94 (0,0)) (by refine ZY ?_;refine blk_put (cs := #[.string a1,.int .i64 0,.int .i64 0]) ?_ 2 _ rfl;refine ZY ?_;refine blk_put (cs := #[.string a1,.int .i64 0,.int .i64 0]) ?_ 1 _ rfl;refine ZY ?_;refine blk_put (cs := #[.string (⟨#[]⟩ : ByteArray),.int .i64 0,.int .i64 0]) ?_ 0 _ rfl;refine ZY ?_;exact BK101.out) hb);replace HB := BS HB hb;have hcz11_0 : w10.cell? ⟨gb101,0,none⟩ = some (.string a1) := ZC BK101 0 rfl;have hcz11_1 : w10.cell? ⟨gb101,1,none⟩ = some (.int .i64 0) := ZC BK101 1 rfl;have hcz11_2 : w10.cell? ⟨gb101,2,none⟩ = some (.int .i64 a2) := ZC BK101 2 rfl;have hfz11_0 := blk_frozen BK101.out 0;have hfz11_1 := blk_frozen BK101.out 1;have hfz11_2 := blk_frozen BK101.out 2)|(go_at_call 83;(with_reducible refine (impl_isCard.calls k a1 0 a2 t103 _ A9.out).mono ?_);rintro e w12 ⟨rfl,hb⟩;replace BK101 := ZA (blk_below (ZH BK101) hb);replace HB := BS HB hb))
  go_meet
  case rel => exact ⟨_,(!t103),ZG,H',⟨YO⟩,⟨ZH BK101⟩,⟨ZQ HB⟩⟩
 case rest =>
  clear HC4;obtain ⟨kq,x20_3,rfl,HA,HJ3,BK101,HB⟩ := hcut;cases kq with
  | zero => exact absurd HA.out (by simp [impl_AddCard.j0])
  | succ kj3 =>
   have H := HA.out;clear HA;simp only [impl_AddCard.j0] at H;by_cases c14 : x20_3 = true
   ·subst c14;rw [if_pos rfl] at H;simp only [Option.some.injEq,Prod.mk.injEq] at H;obtain ⟨rfl,rfl⟩ := H;go_wp2;go_ret2;exact ⟨_,YR,by first|exact Kd.R_nil _ _ _ _ _|exact Kd.N_nil _ _ _ _ _|exact Kd.V_nil _ _ _ _ _|exact Kd.Q_nil _ _ _ _ _|exact Kd.S_nil _ _ _ _ _,ZQ HB⟩
   replace c14 := Bool.eq_false_iff.mpr c14;subst c14;rw [if_neg (show ¬ (false = true) by decide)] at H;replace H := YJ H;obtain ⟨t104,A15,H⟩ := H;try dsimp only at H
   obtain ⟨y107,hy107⟩ : ∃ y_ : List (S94),y_ = (([(⟨a1,0,a2⟩ : S94)] : List (S94))) := ⟨_,rfl⟩;replace H : (if t104.length + y107.length < 4398046511104 then ((slices_SortFunc_impl_Card.f (t104 ++ y107)).bind fun t113 => ((impl_AreCards.f kj3 t113).bind fun t114 => (if t114 = true then (some (t113,true)) else (some (([] : List (S94)),false))))) else (none)) = some (r1,r2) := YH hy107 H;have Ny107 := ZA hy107;clear hy107;replace H := YM H;obtain ⟨c16,H⟩ := H;have LMc16 := ZA c16;clear c16;obtain ⟨y110,hy110⟩ : ∃ y_ : List (S94),y_ = (t104 ++ y107) := ⟨_,rfl⟩;replace H : ((slices_SortFunc_impl_Card.f y110).bind fun t113 => ((impl_AreCards.f kj3 t113).bind fun t114 => (if t114 = true then (some (t113,true)) else (some (([] : List (S94)),false))))) = some (r1,r2) := YH hy110 H;have Ny110 := ZA hy110;clear hy110;replace H := YJ H;obtain ⟨t113,A17,H⟩ := H;try dsimp only at H
   replace H := YJ H;obtain ⟨t114,A18,H⟩ := H;try dsimp only at H
   by_cases c19 : t114 = true
   ·subst c19;rw [if_pos rfl] at H;simp only [Option.some.injEq,Prod.mk.injEq] at H;obtain ⟨rfl,rfl⟩ := H
    try go_wp2
    replace BK101 := ZA (blk_drew BK101.out);replace HB := ZA (below_drew1 HB.out);refine start_ (n := 6) (S := fun w' => w'.cell? ⟨gb101,0,none⟩ = some (.string a1) ∧ w'.cell? ⟨gb101,1,none⟩ = some (.int .i64 0) ∧ w'.cell? ⟨gb101,2,none⟩ = some (.int .i64 a2)) (ds := []) (ZL 6 0) (by kernel_rfl) rfl rfl ⟨ZC BK101 0 rfl,ZC BK101 1 rfl,ZC BK101 2 rfl⟩ (fun hHeld => ?_);generalize wc.drew = w20 at BK101 HB hHeld ⊢;refine pure_ (i := 0) (N := some 21) (v := ?_) (a' := ?_) (ZL 6 1) rfl rfl (by kernel_rfl) (fun _ _ _ h => h) (Or.inl ⟨by rfl,?_⟩) ?_ ?_;rotate_left
    ·intro w'
     go_simp
     with_reducible rfl
    rotate_left
    ·simp only [Act.put,zuA,zuB,zuC,i64_w,i32_w];rfl
    refine take_ (i := 2) (N := some 23) (v := ?_) (a' := ?_) (ZL 6 5) rfl rfl (by kernel_rfl) (fun _ _ _ h => h) (Or.inl ⟨by rfl,?_⟩) hHeld ?_ ?_;rotate_left
    ·rintro w' ⟨s0,s1,s2⟩
     go_simp
     with_reducible rfl
    rotate_left
    ·simp only [Act.put,zuA,zuB,zuC,i64_w,i32_w];rfl
    refine join_ (σ := Value × Value) 2 (ZL 6 15) (fun s_ => [(22,s_.1),(24,s_.2)]) (fun s_ w' => (w'.cell? ⟨gb101,0,none⟩ = some (.string a1) ∧ w'.cell? ⟨gb101,1,none⟩ = some (.int .i64 0) ∧ w'.cell? ⟨gb101,2,none⟩ = some (.int .i64 a2)) ∧ (Kd.R k94 94 w' w.heap.size (fun k_ => some k_ ≠ (s_.2 : Value).ownBlock ∧ k_ ≠ gb101) s_.1 t104) ∧ (Kd.R k94 94 w' w.heap.size (fun k_ => some k_ ≠ (s_.1 : Value).ownBlock ∧ k_ ≠ gb101) s_.2 y107) ∧ (w'.heap[gb101]? = some (.cells #[.string a1,.int .i64 0,.int .i64 a2] 94 (0,0))) ∧ (Below w.heap.size w w')) ?_ ?_;rotate_left
    ·intro hCont;refine two_ (i := 1) (j := 3) (Ni := some 22) (Nj := some 24) (ZL 6 7) (ZL 6 13) rfl rfl rfl rfl (by kernel_rfl) (by decide) (by decide) (fun K hK => ?_) (fun K hK => ?_)
     ·skip
      refine YS Tryd.func74 #[.slice A0 l0.length c0] ?_
      with_reducible refine (slices_Clone_impl_Card.calls _ _ l0 t104 _ (ZR (Kd.C_below HR0.out HB.out)) HC0.out A15.out).mono ?_
      rintro e w21 ⟨v105,rfl,ho0,hb⟩;refine ⟨_,rfl,?_⟩;have HO106 := ZA (Kd.R_lower (Kd.R_newB ho0 (g := gb101) (o := .cells #[.string a1,.int .i64 0,.int .i64 a2] 94 (0,0)) (ZH BK101)) (SZ HB));replace BK101 := ZA (blk_below (ZH BK101) hb);replace HB := BS HB hb;refine hK.out _ _ ⟨ZC BK101 0 rfl,ZC BK101 1 rfl,ZC BK101 2 rfl⟩ (fun hHeld => ?_);clear hK K;refine YZ (some 22) ?_;refine one_ (i := 3) (N := some 24) (ZL 6 15) rfl rfl (by kernel_rfl) (by decide) (fun K hK => ?_);refine Kd.R_lit_step k94 _ 94 ?hg (N := 24) ?hd (xs := ([(⟨a1,0,a2⟩ : S94)] : List (S94))) (inner := [.string a1,.int .i64 0,.int .i64 a2]) (ok := fun _ => True) (okp := fun _ => True) ?hr ?hp (fun _ hk => hk) trivial (Below.refl _ _) (Nat.le_refl _) (by simp) ?_;(case hd => rfl);(case hg => rfl);(case hr => first|(go_simp;done)|(go_simp;rfl));(case hp => exact (Reps.c3 (show Kd.M k94 _ _ _ (⟨a1,0,a2⟩ : S94) [.string a1,.int .i64 0,.int .i64 a2] from (k94_mkM _ _ _ (⟨a1,0,a2⟩ : S94) )) (Reps.none _ _)))
      intro v108 w22 ho23 hb hg_ hnew_;clear hg_ hnew_
      (first|rw [<- Ny107.out] at ho23|(simp only [Int.reduceToNat] at ho23;rw [<- Ny107.out] at ho23))
      have HO109 := ZA (Kd.R_lower (Kd.R_newB (Kd.R_new' ho23 (Kd.R_lt (ZK HO106))) (g := gb101) (o := .cells #[.string a1,.int .i64 0,.int .i64 a2] 94 (0,0)) (ZH BK101)) (SZ HB));replace HO106 := ZA (Kd.R_elder' (ZK HO106) (Kd.R_base ho23) hb);replace BK101 := ZA (blk_below (ZH BK101) hb);replace HB := BS HB hb;clear hb ho23;refine hK.out _ _ ⟨ZC BK101 0 rfl,ZC BK101 1 rfl,ZC BK101 2 rfl⟩ (fun hHeld => ?_);clear hK K;refine YZ (some 24) ?_;exact norm_ (by simp only [putAll,Act.put,zuA,zuB,zuC]) (hCont (v105,v108) _ ⟨hHeld,(ZK ⟨Kd.R_mono HO106.out (fun _ hk => ⟨hk.2,hk.1.2⟩)⟩),(ZK ⟨Kd.R_mono HO109.out (fun _ hk => ⟨hk.1.2,hk.2⟩)⟩),(ZH BK101),(ZQ HB)⟩)
     skip
     refine Kd.R_lit_step k94 _ 94 ?hg (N := 24) ?hd (xs := ([(⟨a1,0,a2⟩ : S94)] : List (S94))) (inner := [.string a1,.int .i64 0,.int .i64 a2]) (ok := fun _ => True) (okp := fun _ => True) ?hr ?hp (fun _ hk => hk) trivial (Below.refl _ _) (Nat.le_refl _) (by simp) ?_;(case hd => rfl);(case hg => rfl);(case hr => first|(go_simp;done)|(go_simp;rfl));(case hp => exact (Reps.c3 (show Kd.M k94 _ _ _ (⟨a1,0,a2⟩ : S94) [.string a1,.int .i64 0,.int .i64 a2] from (k94_mkM _ _ _ (⟨a1,0,a2⟩ : S94) )) (Reps.none _ _)))
     intro v108 w21 ho22 hb hg_ hnew_;clear hg_ hnew_
     (first|rw [<- Ny107.out] at ho22|(simp only [Int.reduceToNat] at ho22;rw [<- Ny107.out] at ho22))
     have HO109 := ZA (Kd.R_lower (Kd.R_newB ho22 (g := gb101) (o := .cells #[.string a1,.int .i64 0,.int .i64 a2] 94 (0,0)) (ZH BK101)) (SZ HB));replace BK101 := ZA (blk_below (ZH BK101) hb);replace HB := BS HB hb;clear hb ho22;refine hK.out _ _ ⟨ZC BK101 0 rfl,ZC BK101 1 rfl,ZC BK101 2 rfl⟩ (fun hHeld => ?_);clear hK K;refine YZ (some 24) ?_;refine one_ (i := 1) (N := some 22) (ZL 6 15) rfl rfl (by kernel_rfl) (by decide) (fun K hK => ?_);refine YS Tryd.func74 #[.slice A0 l0.length c0] ?_
     with_reducible refine (slices_Clone_impl_Card.calls _ _ l0 t104 _ (ZR (Kd.C_below HR0.out HB.out)) HC0.out A15.out).mono ?_
     rintro e w23 ⟨v105,rfl,ho0,hb⟩;refine ⟨_,rfl,?_⟩;have HO106 := ZA (Kd.R_lower (Kd.R_newB (Kd.R_new' ho0 (Kd.R_lt (ZK HO109))) (g := gb101) (o := .cells #[.string a1,.int .i64 0,.int .i64 a2] 94 (0,0)) (ZH BK101)) (SZ HB));replace HO109 := ZA (Kd.R_elder' (ZK HO109) (Kd.R_base ho0) hb);replace BK101 := ZA (blk_below (ZH BK101) hb);replace HB := BS HB hb;refine hK.out _ _ ⟨ZC BK101 0 rfl,ZC BK101 1 rfl,ZC BK101 2 rfl⟩ (fun hHeld => ?_);clear hK K;refine YZ (some 22) ?_;exact norm_ (by simp only [putAll,Act.put,zuA,zuB,zuC]) (hCont (v105,v108) _ ⟨hHeld,(ZK ⟨Kd.R_mono HO106.out (fun _ hk => ⟨hk.1.2,hk.2⟩)⟩),(ZK ⟨Kd.R_mono HO109.out (fun _ hk => ⟨hk.2,hk.1.2⟩)⟩),(ZH BK101),(ZQ HB)⟩)
    rintro ⟨v105,v108⟩ w24 ⟨hS_,h0_,h1_,h2_,h3_⟩;have HO106 := ZA h0_;have HO109 := ZA h1_;replace BK101 := ZA h2_;replace HB := ZA h3_;clear h0_ h1_ h2_ h3_;have hHeld : w24.cell? ⟨gb101,0,none⟩ = some (.string a1) ∧ w24.cell? ⟨gb101,1,none⟩ = some (.int .i64 0) ∧ w24.cell? ⟨gb101,2,none⟩ = some (.int .i64 a2) := hS_;obtain ⟨Ao26,co26,eo26⟩ := Kd.R_slice HO109.out
    (first|subst eo26|(injection eo26 with f1_ f2_ f3_;have f4_ := f1_.symm;have f5_ := f3_.symm;clear f1_ f2_ f3_;subst f4_;subst f5_))
    refine norm_ (a' := ?_) ?_ ?_;rotate_left
    ·simp only [putAll,Act.put,zuA,zuB,zuC];rfl
    refine one_ (i := 4) (N := some 25) (ZL 6 31) rfl rfl (by kernel_rfl) (by decide) (fun K hK => ?_);refine Kd.R_append_rows_step k94 (w0 := w) w.heap.size (by rfl) (.tmp 22) (.tmp 24) 47 94 (.agg #[(.string ⟨#[]⟩),(.int .i64 0),(.int .i64 0)]) 32 rfl Tryd.underlying47 info94 rfl (by decide) (by omega) v105 t104 y107 _ _ _ (fun k_ => some k_ ≠ (.slice Ao26 y107.length co26 : Value).ownBlock ∧ k_ ≠ gb101) (fun _ => False) rfl rfl ?aO ?aR (fun _ _ h => h) (fun _ h => h.elim) ?aF ?aB ?aS ?aL ?_
    (case aR => exact WR HO109)
    (case aB => exact (ZQ HB))
    (case aF => exact (fun k_ hk => ⟨Kd.fresh' (Kd.R_lt (ZK HO109)) k_ hk,Kd.freshB (ZH BK101) k_ hk⟩))
    (case aO => exact (ZK HO106))
    (case aS => exact (SZ HB))
    (case aL => have := LMc16.out;omega)
    intro v111 w25 ho hb hg hat;rw [<- Ny110.out] at ho;replace BK101 := ZA (blk_grown (g := gb101) (o := .cells #[.string a1,.int .i64 0,.int .i64 a2] 94 (0,0)) (ZH BK101) hg (Kd.R_away HO106.out (fun _ hk => hk.2)));replace HO109 := ZA (Kd.R_after (ok := (fun k_ => k_ ≠ gb101)) (ZK ⟨Kd.R_mono HO109.out (fun _ hk => ⟨hk.2,hk.1⟩)⟩) hg hat);replace HB := ZA (hb);have HO112 := ZA (ho);clear HO106;clear ho hb hg hat;refine hK.out _ _ ⟨ZC BK101 0 rfl,ZC BK101 1 rfl,ZC BK101 2 rfl⟩ (fun hHeld => ?_);clear hK K;refine YZ (some 25) ?_;refine pure_ (i := 5) (N := some 9) (v := ?_) (a' := ?_) (ZL 6 63) rfl rfl (by kernel_rfl) (fun _ _ _ h => h) (Or.inl ⟨by rfl,?_⟩) ?_ ?_;rotate_left
    ·intro w'
     go_simp
     with_reducible rfl
    rotate_left
    ·simp only [Act.put,zuA,zuB,zuC,i64_w,i32_w];rfl
    refine done_ (by kernel_rfl) ?_;obtain ⟨Ao27,co27,eo27⟩ := Kd.R_slice HO112.out;subst eo27
    try go_wp2_with (first|((with_reducible refine gate_callee (f := 84) rfl ?_);refine goesL_ (some 27) rfl rfl Tryd.func84 (by kernel_rfl) rfl #[.slice Ao27 y110.length co27,.func (.func 85) #[] #[]] rfl (by (try simp only [List.map_toArray,List.map_cons,List.map_nil]);first|done|rfl|(simp only [List.length_drop,List.length_take];rfl)) ?_;(with_reducible refine (slices_SortFunc_impl_Card.calls (fun k_ => some k_ = (.slice Ao27 y110.length co27 : Value).ownBlock) (.slice Ao27 y110.length co27) y110 t113 w _ (ZQ HB) (Kd.R_tight rfl HO112.out) A17.out).mono ?_);rintro e w28 ⟨rfl,hy0,hb,hkp⟩;refine ⟨_,rfl,?_⟩;replace BK101 := ZA (blk_kept (ZH BK101) hkp (fun hs_ => (fun e_ => (Kd.R_away HO112.out (fun _ hk => hk.2)) e_) hs_));replace HO109 := ZA (Kd.R_mono (ok' := fun k_ => some k_ ≠ (.slice Ao27 y110.length co27 : Value).ownBlock ∧ k_ ≠ gb101) (Kd.R_keptB (HO109.out) hkp (fun k_ hk_ hs_ => (hk_.2) hs_)) (fun k_ hk_ => ⟨hk_.1.2,hk_.1.1⟩));replace HO112 := ZA (Kd.R_reok rfl hy0 (fun k_ e_ => HO112.out.1 k_ e_));replace HB := ZA (hb))|((with_reducible refine gate_callee (f := 41) rfl ?_);refine goesL_ (some 29) rfl rfl Tryd.func41 (by kernel_rfl) rfl #[.slice Ao27 t113.length co27] rfl (by (try simp only [List.map_toArray,List.map_cons,List.map_nil]);first|done|(rw [show t113.length = y110.length from (Kd.R_reads' HO112.out).1.symm] <;> rfl)|rfl|(simp only [List.length_drop,List.length_take];rfl)) ?_;(with_reducible refine (impl_AreCards.calls kj3 _ _ t113 true _ (WR HO112) ?side2 A18.out).mono ?_);(case side2 => rw [show t113.length = y110.length from (Kd.R_reads' HO112.out).1.symm];exact CR HO112);rintro e w29 ⟨rfl,hb⟩;refine ⟨_,rfl,?_⟩;replace HO109 := ZBR HO109 hb;replace HO112 := ZBR HO112 hb;replace BK101 := ZA (blk_below (ZH BK101) hb);replace HB := BS HB hb))
    go_ret2;exact ⟨_,YR,ZK ⟨Kd.R_mono HO112.out (fun _ hk => trivial)⟩,ZQ HB⟩
   replace c19 := Bool.eq_false_iff.mpr c19;subst c19;rw [if_neg (show ¬ (false = true) by decide)] at H;simp only [Option.some.injEq,Prod.mk.injEq] at H;obtain ⟨rfl,rfl⟩ := H
   try go_wp2
   replace BK101 := ZA (blk_drew BK101.out);replace HB := ZA (below_drew1 HB.out);refine start_ (n := 6) (S := fun w' => w'.cell? ⟨gb101,0,none⟩ = some (.string a1) ∧ w'.cell? ⟨gb101,1,none⟩ = some (.int .i64 0) ∧ w'.cell? ⟨gb101,2,none⟩ = some (.int .i64 a2)) (ds := []) (ZL 6 0) (by kernel_rfl) rfl rfl ⟨ZC BK101 0 rfl,ZC BK101 1 rfl,ZC BK101 2 rfl⟩ (fun hHeld => ?_);generalize wc.drew = w30 at BK101 HB hHeld ⊢;refine pure_ (i := 0) (N := some 21) (v := ?_) (a' := ?_) (ZL 6 1) rfl rfl (by kernel_rfl) (fun _ _ _ h => h) (Or.inl ⟨by rfl,?_⟩) ?_ ?_;rotate_left
   ·intro w'
    go_simp
    with_reducible rfl
   rotate_left
   ·simp only [Act.put,zuA,zuB,zuC,i64_w,i32_w];rfl
   refine take_ (i := 2) (N := some 23) (v := ?_) (a' := ?_) (ZL 6 5) rfl rfl (by kernel_rfl) (fun _ _ _ h => h) (Or.inl ⟨by rfl,?_⟩) hHeld ?_ ?_;rotate_left
   ·rintro w' ⟨s0,s1,s2⟩
    go_simp
    with_reducible rfl
   rotate_left
   ·simp only [Act.put,zuA,zuB,zuC,i64_w,i32_w];rfl
   refine join_ (σ := Value × Value) 2 (ZL 6 15) (fun s_ => [(22,s_.1),(24,s_.2)]) (fun s_ w' => (w'.cell? ⟨gb101,0,none⟩ = some (.string a1) ∧ w'.cell? ⟨gb101,1,none⟩ = some (.int .i64 0) ∧ w'.cell? ⟨gb101,2,none⟩ = some (.int .i64 a2)) ∧ (Kd.R k94 94 w' w.heap.size (fun k_ => some k_ ≠ (s_.2 : Value).ownBlock ∧ k_ ≠ gb101) s_.1 t104) ∧ (Kd.R k94 94 w' w.heap.size (fun k_ => some k_ ≠ (s_.1 : Value).ownBlock ∧ k_ ≠ gb101) s_.2 y107) ∧ (w'.heap[gb101]? = some (.cells #[.string a1,.int .i64 0,.int .i64 a2] 94 (0,0))) ∧ (Below w.heap.size w w')) ?_ ?_;rotate_left
   ·intro hCont;refine two_ (i := 1) (j := 3) (Ni := some 22) (Nj := some 24) (ZL 6 7) (ZL 6 13) rfl rfl rfl rfl (by kernel_rfl) (by decide) (by decide) (fun K hK => ?_) (fun K hK => ?_)
    ·skip
     refine YS Tryd.func74 #[.slice A0 l0.length c0] ?_
     with_reducible refine (slices_Clone_impl_Card.calls _ _ l0 t104 _ (ZR (Kd.C_below HR0.out HB.out)) HC0.out A15.out).mono ?_
     rintro e w31 ⟨v105,rfl,ho0,hb⟩;refine ⟨_,rfl,?_⟩;have HO106 := ZA (Kd.R_lower (Kd.R_newB ho0 (g := gb101) (o := .cells #[.string a1,.int .i64 0,.int .i64 a2] 94 (0,0)) (ZH BK101)) (SZ HB));replace BK101 := ZA (blk_below (ZH BK101) hb);replace HB := BS HB hb;refine hK.out _ _ ⟨ZC BK101 0 rfl,ZC BK101 1 rfl,ZC BK101 2 rfl⟩ (fun hHeld => ?_);clear hK K;refine YZ (some 22) ?_;refine one_ (i := 3) (N := some 24) (ZL 6 15) rfl rfl (by kernel_rfl) (by decide) (fun K hK => ?_);refine Kd.R_lit_step k94 _ 94 ?hg (N := 24) ?hd (xs := ([(⟨a1,0,a2⟩ : S94)] : List (S94))) (inner := [.string a1,.int .i64 0,.int .i64 a2]) (ok := fun _ => True) (okp := fun _ => True) ?hr ?hp (fun _ hk => hk) trivial (Below.refl _ _) (Nat.le_refl _) (by simp) ?_;(case hd => rfl);(case hg => rfl);(case hr => first|(go_simp;done)|(go_simp;rfl));(case hp => exact (Reps.c3 (show Kd.M k94 _ _ _ (⟨a1,0,a2⟩ : S94) [.string a1,.int .i64 0,.int .i64 a2] from (k94_mkM _ _ _ (⟨a1,0,a2⟩ : S94) )) (Reps.none _ _)))
     intro v108 w32 ho33 hb hg_ hnew_;clear hg_ hnew_
     (first|rw [<- Ny107.out] at ho33|(simp only [Int.reduceToNat] at ho33;rw [<- Ny107.out] at ho33))
     have HO109 := ZA (Kd.R_lower (Kd.R_newB (Kd.R_new' ho33 (Kd.R_lt (ZK HO106))) (g := gb101) (o := .cells #[.string a1,.int .i64 0,.int .i64 a2] 94 (0,0)) (ZH BK101)) (SZ HB));replace HO106 := ZA (Kd.R_elder' (ZK HO106) (Kd.R_base ho33) hb);replace BK101 := ZA (blk_below (ZH BK101) hb);replace HB := BS HB hb;clear hb ho33;refine hK.out _ _ ⟨ZC BK101 0 rfl,ZC BK101 1 rfl,ZC BK101 2 rfl⟩ (fun hHeld => ?_);clear hK K;refine YZ (some 24) ?_;exact norm_ (by simp only [putAll,Act.put,zuA,zuB,zuC]) (hCont (v105,v108) _ ⟨hHeld,(ZK ⟨Kd.R_mono HO106.out (fun _ hk => ⟨hk.2,hk.1.2⟩)⟩),(ZK ⟨Kd.R_mono HO109.out (fun _ hk => ⟨hk.1.2,hk.2⟩)⟩),(ZH BK101),(ZQ HB)⟩)
    skip
    refine Kd.R_lit_step k94 _ 94 ?hg (N := 24) ?hd (xs := ([(⟨a1,0,a2⟩ : S94)] : List (S94))) (inner := [.string a1,.int .i64 0,.int .i64 a2]) (ok := fun _ => True) (okp := fun _ => True) ?hr ?hp (fun _ hk => hk) trivial (Below.refl _ _) (Nat.le_refl _) (by simp) ?_;(case hd => rfl);(case hg => rfl);(case hr => first|(go_simp;done)|(go_simp;rfl));(case hp => exact (Reps.c3 (show Kd.M k94 _ _ _ (⟨a1,0,a2⟩ : S94) [.string a1,.int .i64 0,.int .i64 a2] from (k94_mkM _ _ _ (⟨a1,0,a2⟩ : S94) )) (Reps.none _ _)))
    intro v108 w31 ho32 hb hg_ hnew_;clear hg_ hnew_
    (first|rw [<- Ny107.out] at ho32|(simp only [Int.reduceToNat] at ho32;rw [<- Ny107.out] at ho32))
    have HO109 := ZA (Kd.R_lower (Kd.R_newB ho32 (g := gb101) (o := .cells #[.string a1,.int .i64 0,.int .i64 a2] 94 (0,0)) (ZH BK101)) (SZ HB));replace BK101 := ZA (blk_below (ZH BK101) hb);replace HB := BS HB hb;clear hb ho32;refine hK.out _ _ ⟨ZC BK101 0 rfl,ZC BK101 1 rfl,ZC BK101 2 rfl⟩ (fun hHeld => ?_);clear hK K;refine YZ (some 24) ?_;refine one_ (i := 1) (N := some 22) (ZL 6 15) rfl rfl (by kernel_rfl) (by decide) (fun K hK => ?_);refine YS Tryd.func74 #[.slice A0 l0.length c0] ?_
    with_reducible refine (slices_Clone_impl_Card.calls _ _ l0 t104 _ (ZR (Kd.C_below HR0.out HB.out)) HC0.out A15.out).mono ?_
    rintro e w33 ⟨v105,rfl,ho0,hb⟩;refine ⟨_,rfl,?_⟩;have HO106 := ZA (Kd.R_lower (Kd.R_newB (Kd.R_new' ho0 (Kd.R_lt (ZK HO109))) (g := gb101) (o := .cells #[.string a1,.int .i64 0,.int .i64 a2] 94 (0,0)) (ZH BK101)) (SZ HB));replace HO109 := ZA (Kd.R_elder' (ZK HO109) (Kd.R_base ho0) hb);replace BK101 := ZA (blk_below (ZH BK101) hb);replace HB := BS HB hb;refine hK.out _ _ ⟨ZC BK101 0 rfl,ZC BK101 1 rfl,ZC BK101 2 rfl⟩ (fun hHeld => ?_);clear hK K;refine YZ (some 22) ?_;exact norm_ (by simp only [putAll,Act.put,zuA,zuB,zuC]) (hCont (v105,v108) _ ⟨hHeld,(ZK ⟨Kd.R_mono HO106.out (fun _ hk => ⟨hk.1.2,hk.2⟩)⟩),(ZK ⟨Kd.R_mono HO109.out (fun _ hk => ⟨hk.2,hk.1.2⟩)⟩),(ZH BK101),(ZQ HB)⟩)
   rintro ⟨v105,v108⟩ w34 ⟨hS_,h0_,h1_,h2_,h3_⟩;have HO106 := ZA h0_;have HO109 := ZA h1_;replace BK101 := ZA h2_;replace HB := ZA h3_;clear h0_ h1_ h2_ h3_;have hHeld : w34.cell? ⟨gb101,0,none⟩ = some (.string a1) ∧ w34.cell? ⟨gb101,1,none⟩ = some (.int .i64 0) ∧ w34.cell? ⟨gb101,2,none⟩ = some (.int .i64 a2) := hS_;obtain ⟨Ao36,co36,eo36⟩ := Kd.R_slice HO109.out
   (first|subst eo36|(injection eo36 with f1_ f2_ f3_;have f4_ := f1_.symm;have f5_ := f3_.symm;clear f1_ f2_ f3_;subst f4_;subst f5_))
   refine norm_ (a' := ?_) ?_ ?_;rotate_left
   ·simp only [putAll,Act.put,zuA,zuB,zuC];rfl
   refine one_ (i := 4) (N := some 25) (ZL 6 31) rfl rfl (by kernel_rfl) (by decide) (fun K hK => ?_);refine Kd.R_append_rows_step k94 (w0 := w) w.heap.size (by rfl) (.tmp 22) (.tmp 24) 47 94 (.agg #[(.string ⟨#[]⟩),(.int .i64 0),(.int .i64 0)]) 32 rfl Tryd.underlying47 info94 rfl (by decide) (by omega) v105 t104 y107 _ _ _ (fun k_ => some k_ ≠ (.slice Ao36 y107.length co36 : Value).ownBlock ∧ k_ ≠ gb101) (fun _ => False) rfl rfl ?aO ?aR (fun _ _ h => h) (fun _ h => h.elim) ?aF ?aB ?aS ?aL ?_
   (case aR => exact WR HO109)
   (case aB => exact (ZQ HB))
   (case aF => exact (fun k_ hk => ⟨Kd.fresh' (Kd.R_lt (ZK HO109)) k_ hk,Kd.freshB (ZH BK101) k_ hk⟩))
   (case aO => exact (ZK HO106))
   (case aS => exact (SZ HB))
   (case aL => have := LMc16.out;omega)
   intro v111 w35 ho hb hg hat;rw [<- Ny110.out] at ho;replace BK101 := ZA (blk_grown (g := gb101) (o := .cells #[.string a1,.int .i64 0,.int .i64 a2] 94 (0,0)) (ZH BK101) hg (Kd.R_away HO106.out (fun _ hk => hk.2)));replace HO109 := ZA (Kd.R_after (ok := (fun k_ => k_ ≠ gb101)) (ZK ⟨Kd.R_mono HO109.out (fun _ hk => ⟨hk.2,hk.1⟩)⟩) hg hat);replace HB := ZA (hb);have HO112 := ZA (ho);clear HO106;clear ho hb hg hat;refine hK.out _ _ ⟨ZC BK101 0 rfl,ZC BK101 1 rfl,ZC BK101 2 rfl⟩ (fun hHeld => ?_);clear hK K;refine YZ (some 25) ?_;refine pure_ (i := 5) (N := some 9) (v := ?_) (a' := ?_) (ZL 6 63) rfl rfl (by kernel_rfl) (fun _ _ _ h => h) (Or.inl ⟨by rfl,?_⟩) ?_ ?_;rotate_left
   ·intro w'
    go_simp
    with_reducible rfl
   rotate_left
   ·simp only [Act.put,zuA,zuB,zuC,i64_w,i32_w];rfl
   refine done_ (by kernel_rfl) ?_;obtain ⟨Ao37,co37,eo37⟩ := Kd.R_slice HO112.out;subst eo37
   try go_wp2_with (first|((with_reducible refine gate_callee (f := 84) rfl ?_);refine goesL_ (some 27) rfl rfl Tryd.func84 (by kernel_rfl) rfl #[.slice Ao37 y110.length co37,.func (.func 85) #[] #[]] rfl (by (try simp only [List.map_toArray,List.map_cons,List.map_nil]);first|done|rfl|(simp only [List.length_drop,List.length_take];rfl)) ?_;(with_reducible refine (slices_SortFunc_impl_Card.calls (fun k_ => some k_ = (.slice Ao37 y110.length co37 : Value).ownBlock) (.slice Ao37 y110.length co37) y110 t113 w _ (ZQ HB) (Kd.R_tight rfl HO112.out) A17.out).mono ?_);rintro e w38 ⟨rfl,hy0,hb,hkp⟩;refine ⟨_,rfl,?_⟩;replace BK101 := ZA (blk_kept (ZH BK101) hkp (fun hs_ => (fun e_ => (Kd.R_away HO112.out (fun _ hk => hk.2)) e_) hs_));replace HO109 := ZA (Kd.R_mono (ok' := fun k_ => some k_ ≠ (.slice Ao37 y110.length co37 : Value).ownBlock ∧ k_ ≠ gb101) (Kd.R_keptB (HO109.out) hkp (fun k_ hk_ hs_ => (hk_.2) hs_)) (fun k_ hk_ => ⟨hk_.1.2,hk_.1.1⟩));replace HO112 := ZA (Kd.R_reok rfl hy0 (fun k_ e_ => HO112.out.1 k_ e_));replace HB := ZA (hb))|((with_reducible refine gate_callee (f := 41) rfl ?_);refine goesL_ (some 29) rfl rfl Tryd.func41 (by kernel_rfl) rfl #[.slice Ao37 t113.length co37] rfl (by (try simp only [List.map_toArray,List.map_cons,List.map_nil]);first|done|(rw [show t113.length = y110.length from (Kd.R_reads' HO112.out).1.symm] <;> rfl)|rfl|(simp only [List.length_drop,List.length_take];rfl)) ?_;(with_reducible refine (impl_AreCards.calls kj3 _ _ t113 false _ (WR HO112) ?side2 A18.out).mono ?_);(case side2 => rw [show t113.length = y110.length from (Kd.R_reads' HO112.out).1.symm];exact CR HO112);rintro e w39 ⟨rfl,hb⟩;refine ⟨_,rfl,?_⟩;replace HO109 := ZBR HO109 hb;replace HO112 := ZBR HO112 hb;replace BK101 := ZA (blk_below (ZH BK101) hb);replace HB := BS HB hb))
   go_ret2;exact ⟨_,YR,by first|exact Kd.R_nil _ _ _ _ _|exact Kd.N_nil _ _ _ _ _|exact Kd.V_nil _ _ _ _ _|exact Kd.Q_nil _ _ _ _ _|exact Kd.S_nil _ _ _ _ _,ZQ HB⟩
end Go.Proofs.YtkobnljfoedmnaaDoor.Q
