import Derived.Test.YtgnijnlgbelifaaGreatQBSpecExRight
import Derived.Test.YtgnijnlgbelifaaGreatQImplAllOfImplQuestion
namespace Go.Proofs.YtgnijnlgbelifaaGreat.Q
open RowKit W.PrintWords W.PrintLast W.PrintMore W.GCall
attribute [local go_sem] Ebi Ebj Ebx Eby Ebb Ebc Ebk Ebl
set_option linter.unusedVariables false
set_option maxHeartbeats 3000000
set_option maxRecDepth 100000
set_option linter.unusedSimpArgs false
mutual
def Fn.j0 : Nat -> List (S30) -> List Int -> Bool -> Option (Bool)
 | 0,_,_,_ => none
 | k + 1,x0,x1,d => if d = true then (some false) else (Fn.l0 k x1 x0 (x0.length : Int) 0)
def Fn.l0 : Nat -> List Int -> List (S30) -> Int -> Int -> Option (Bool)
 | 0,_,_,_,_ => none
 | k + 1,x1,g,j,d => if d < j then (if 0 <= d then (if d < (g.length : Int) then (if d < (x1.length : Int) then ((FB.f (rd x1 d) (-1) (wrap64 ((((rd_T30 g d).f1).length : Int) - 1))).bind fun i => (if i = true then (Fn.l0 k x1 g j (wrap64 (d + 1))) else (some false))) else (none)) else (none)) else (none)) else (some true)
end
def Fn.f (k : Nat) (l0 : List (S30)) (l1 : List Int) : Option (Bool) := if (l0.length : Int) > 20 then (Fn.j0 k l0 l1 true) else ((FE.f k l0).bind fun d => (if d = true then (Fn.j0 k l0 l1 ((l1.length : Int) != (l0.length : Int))) else (Fn.j0 k l0 l1 true)))
theorem Fn.calls (k : Nat) (A0 : Option Addr) (c0 : Nat) (l0 : List (S30)) (A1 : Option Addr) (c1 : Nat) (l1 : List Int) (r : Bool) (w : World) (aw : Kd.C k30 w A0 l0.length l0) (ax : l0.length <= c0) (ay : Kd.C (Kd.int .i64) w A1 l1.length l1) (az : l1.length <= c1) (h : Fn.f k l0 l1 = some r) :
  Calls Tryz.prog 105 #[.slice A0 l0.length c0,.slice A1 l1.length c1] w fun e w' => e = .returned (.bool r) ∧ Below w.heap.size w w' := by
 have aG := Tryz.underlying30;have ak := ZA aw;have an := ZA ax;clear aw ax;have ao := ZA ay;have aK := ZA az;clear ay az;have HB := ZA (Below.refl w.heap.size w);have H := h;clear h;unfold Fn.f at H;have au := ZA H;clear H;go_enter Tryz.func105,Tryz.ntmps105
 go_upto_region 1 with (fail)
 repeat (go_quiet (fail);go_upto_region 1 with (fail))
 go_cut [21] (fun aH wc => ∃ (kq : Nat) (V : Bool),aH = .bool V ∧ Aside0 (Fn.j0 kq l0 l1 V = some r) ∧ Aside0 (kq <= k) ∧ Aside0 (Below w.heap.size w wc))
 case first =>
  have H := au.out;clear au;by_cases c4 : (l0.length : Int) > 20
  ·rw [if_pos c4] at H;have af := decide_eq_true c4;have al : decide (20 < l0.length) = true := decide_eq_true (by omega);clear c4
   (first|rw [af]|rw [al]|(simp only [Eay,Eba];rw [af])|skip)
   have H' := ZA H;clear H;go_wp2
   repeat (go_quiet (fail);try go_wp2)
   go_meet
   case rel => exact ⟨_,(true),ZG,H',⟨YO⟩,⟨ZQ HB⟩⟩
  rw [if_neg c4] at H;have af := decide_eq_false c4;have al : decide (20 < l0.length) = false := decide_eq_false (by omega);clear c4
  (first|rw [af]|rw [al]|(simp only [Eay,Eba];rw [af])|skip)
  replace H := YJ H;obtain ⟨av,A5,H⟩ := H;by_cases c6 : av = true
  ·subst c6;rw [if_pos rfl] at H;have H' := ZA H;clear H
   go_wp2_with (first|(go_at_call 113;(with_reducible refine (FE.calls k _ _ l0 true _ (ZR (Kd.Eab ak.out HB.out)) an.out A5.out).mono ?_);rintro e w7 ⟨rfl,hb⟩;replace HB := BS HB hb))
   repeat (go_quiet (first|(go_at_call 113;(with_reducible refine (FE.calls k _ _ l0 true _ (ZR (Kd.Eab ak.out HB.out)) an.out A5.out).mono ?_);rintro e w7 ⟨rfl,hb⟩;replace HB := BS HB hb));try go_wp2_with (first|(go_at_call 113;(with_reducible refine (FE.calls k _ _ l0 true _ (ZR (Kd.Eab ak.out HB.out)) an.out A5.out).mono ?_);rintro e w7 ⟨rfl,hb⟩;replace HB := BS HB hb)))
   go_meet
   case rel => exact ⟨_,(((l1.length : Int) != (l0.length : Int))),ZG,H',⟨YO⟩,⟨ZQ HB⟩⟩
  replace c6 := Bool.eq_false_iff.mpr c6;subst c6;rw [if_neg (show ¬ (false = true) by decide)] at H;have H' := ZA H;clear H
  go_wp2_with (first|(go_at_call 113;(with_reducible refine (FE.calls k _ _ l0 false _ (ZR (Kd.Eab ak.out HB.out)) an.out A5.out).mono ?_);rintro e w8 ⟨rfl,hb⟩;replace HB := BS HB hb))
  repeat (go_quiet (first|(go_at_call 113;(with_reducible refine (FE.calls k _ _ l0 false _ (ZR (Kd.Eab ak.out HB.out)) an.out A5.out).mono ?_);rintro e w8 ⟨rfl,hb⟩;replace HB := BS HB hb));try go_wp2_with (first|(go_at_call 113;(with_reducible refine (FE.calls k _ _ l0 false _ (ZR (Kd.Eab ak.out HB.out)) an.out A5.out).mono ?_);rintro e w8 ⟨rfl,hb⟩;replace HB := BS HB hb)))
  go_meet
  case rel => exact ⟨_,(true),ZG,H',⟨YO⟩,⟨ZQ HB⟩⟩
 case rest =>
  clear au;obtain ⟨kq,V,rfl,HA,aA,HB⟩ := hcut;cases kq with
  | zero => exact absurd HA.out (by simp [Fn.j0])
  | succ aB =>
   have H := HA.out;clear HA;simp only [Fn.j0] at H;by_cases c9 : V = true
   ·subst c9;rw [if_pos rfl] at H;obtain rfl := Option.some.inj H;go_wp2
    repeat (go_quiet (fail);try go_wp2)
    go_ret;exact ⟨YR,ZQ HB⟩
   replace c9 := Bool.eq_false_iff.mpr c9;subst c9;rw [if_neg (show ¬ (false = true) by decide)] at H;have H' := ZA H;clear H;go_wp2
   repeat (go_quiet (fail);try go_wp2)
   go_loopg [24] aB (fun kq aI w' => ∃ (g : Int),aI = .int .i64 g ∧ Aside0 (Fn.l0 kq l1 l0 (l0.length : Int) g = some r) ∧ Aside0 (kq <= aB) ∧ Aside0 (Below w.heap.size w w'))
   case atStart => exact ⟨(0),ZG,H',⟨Nat.le_refl _⟩,⟨ZQ HB⟩⟩
   case round =>
    clear H';obtain ⟨g,rfl,HA,aC,HB⟩ := hrel;cases gk with
    | zero => exact absurd HA.out (by simp [Fn.l0])
    | succ k2 =>
     have H := HA.out;clear HA;simp only [Fn.l0] at H;replace H := YI H;rcases H with ⟨aq,H⟩|⟨aq,H⟩;rotate_left
     ·obtain rfl := Option.some.inj H;go_wp2
      repeat (go_quiet (fail);try go_wp2)
      go_ret;exact ⟨YR,ZQ HB⟩
     replace H := YN H;obtain ⟨aD,H⟩ := H;replace H := YN H;obtain ⟨aE,H⟩ := H;replace H := YN H;obtain ⟨aF,H⟩ := H;replace H := YJ H;obtain ⟨aJ,ap,H⟩ := H;replace H := YF H;rcases H with ⟨rfl,H⟩|⟨rfl,H⟩;rotate_left
     ·obtain rfl := Option.some.inj H;have M : 0 <= (g : Int) := ZD;have U : g < (l0.length : Int) := ZD;obtain ⟨ar,o,q,am,y,z,D,E⟩ := at_T30 ak.out g M U;cases am;replace y := ZX HB y;replace z := ZX HB z;have ai := ZA E;have aj := ZA D;clear E D;replace M := eq_true M;replace U := eq_true U
      go_wp2_with (first|((with_reducible refine Ead (N := 6) rfl ?_);(try (refine Eau (by rfl) ?_;dsimp only));refine ZE 6 #[.int .i64 0,.slice none 0 0] 30 ?_;intro i hg ag hbox hb;have j := ZA (hbox);have s := YQ hg HB;have J := YQ hg HB;replace HB := BS HB hb;clear hb hbox hg;have X : ag.cell? ⟨i,0,none⟩ = some (.int .i64 0) := ZC j 0 rfl;have Y : ag.cell? ⟨i,1,none⟩ = some (.slice none 0 0) := ZC j 1 rfl;have Z := Ea j.out 0;have aa := Ea j.out 1;have u : 0 <= (g : Int) := ZD;have v : g < (l1.length : Int) := ZD;obtain ⟨t,I,d⟩ := Kd.Ean ao.out g u v;cases I;have m : t.block ≠ i := Nat.ne_of_lt (Nat.lt_of_lt_of_le (by have := World.block_lt_of_cell? _ _ d;first|rwa [add_block] at this|exact this) s.out);have n : t.block ≠ i := Nat.ne_of_lt (Nat.lt_of_lt_of_le (by have := World.block_lt_of_cell? _ _ d;first|rwa [add_block] at this|exact this) s.out);replace d := ZX HB d;replace d := (cell_far (p := ⟨i,0,none⟩) (YA (m)) (.int .i64 ((rd_T30 l0 g).f0))).trans d;replace d := (cell_far (p := ⟨i,1,none⟩) (YA (n)) (.slice o ((rd_T30 l0 g).f1).length q)).trans d;(try have G := fun (n_ : Nat) => (show ((((ag.drewN n_).setCell ⟨i,0,none⟩ (.int .i64 ((rd_T30 l0 g).f0))).setCell ⟨i,1,none⟩ (.slice o ((rd_T30 l0 g).f1).length q))).cell? _ = some _ from d));clear m;clear n;replace u := eq_true u;replace v := eq_true v)|(go_at_call 62;(with_reducible refine (FB.calls (rd l1 g) (-1) (wrap64 ((((rd_T30 l0 g).f1).length : Int) - 1)) false _ ap.out).mono ?_);rintro e w' ⟨rfl,⟨nd,rfl⟩⟩;(try first|exact ⟨rfl,_,World.drewN_drewN _ _ _⟩|exact ⟨rfl,_,YW _ _ _ _⟩)))
      repeat (go_quiet (first|((with_reducible refine Ead (N := 6) rfl ?_);(try (refine Eau (by rfl) ?_;dsimp only));refine ZE 6 #[.int .i64 0,.slice none 0 0] 30 ?_;intro i hg ag hbox hb;have j := ZA (hbox);have s := YQ hg HB;have J := YQ hg HB;replace HB := BS HB hb;clear hb hbox hg;have X : ag.cell? ⟨i,0,none⟩ = some (.int .i64 0) := ZC j 0 rfl;have Y : ag.cell? ⟨i,1,none⟩ = some (.slice none 0 0) := ZC j 1 rfl;have Z := Ea j.out 0;have aa := Ea j.out 1;have u : 0 <= (g : Int) := ZD;have v : g < (l1.length : Int) := ZD;obtain ⟨t,I,d⟩ := Kd.Ean ao.out g u v;cases I;have m : t.block ≠ i := Nat.ne_of_lt (Nat.lt_of_lt_of_le (by have := World.block_lt_of_cell? _ _ d;first|rwa [add_block] at this|exact this) s.out);have n : t.block ≠ i := Nat.ne_of_lt (Nat.lt_of_lt_of_le (by have := World.block_lt_of_cell? _ _ d;first|rwa [add_block] at this|exact this) s.out);replace d := ZX HB d;replace d := (cell_far (p := ⟨i,0,none⟩) (YA (m)) (.int .i64 ((rd_T30 l0 g).f0))).trans d;replace d := (cell_far (p := ⟨i,1,none⟩) (YA (n)) (.slice o ((rd_T30 l0 g).f1).length q)).trans d;(try have G := fun (n_ : Nat) => (show ((((ag.drewN n_).setCell ⟨i,0,none⟩ (.int .i64 ((rd_T30 l0 g).f0))).setCell ⟨i,1,none⟩ (.slice o ((rd_T30 l0 g).f1).length q))).cell? _ = some _ from d));clear m;clear n;replace u := eq_true u;replace v := eq_true v)|(go_at_call 62;(with_reducible refine (FB.calls (rd l1 g) (-1) (wrap64 ((((rd_T30 l0 g).f1).length : Int) - 1)) false _ ap.out).mono ?_);rintro e w' ⟨rfl,⟨nd,rfl⟩⟩;(try first|exact ⟨rfl,_,World.drewN_drewN _ _ _⟩|exact ⟨rfl,_,YW _ _ _ _⟩)));try go_wp2_with (first|((with_reducible refine Ead (N := 6) rfl ?_);(try (refine Eau (by rfl) ?_;dsimp only));refine ZE 6 #[.int .i64 0,.slice none 0 0] 30 ?_;intro i hg ag hbox hb;have j := ZA (hbox);have s := YQ hg HB;have J := YQ hg HB;replace HB := BS HB hb;clear hb hbox hg;have X : ag.cell? ⟨i,0,none⟩ = some (.int .i64 0) := ZC j 0 rfl;have Y : ag.cell? ⟨i,1,none⟩ = some (.slice none 0 0) := ZC j 1 rfl;have Z := Ea j.out 0;have aa := Ea j.out 1;have u : 0 <= (g : Int) := ZD;have v : g < (l1.length : Int) := ZD;obtain ⟨t,I,d⟩ := Kd.Ean ao.out g u v;cases I;have m : t.block ≠ i := Nat.ne_of_lt (Nat.lt_of_lt_of_le (by have := World.block_lt_of_cell? _ _ d;first|rwa [add_block] at this|exact this) s.out);have n : t.block ≠ i := Nat.ne_of_lt (Nat.lt_of_lt_of_le (by have := World.block_lt_of_cell? _ _ d;first|rwa [add_block] at this|exact this) s.out);replace d := ZX HB d;replace d := (cell_far (p := ⟨i,0,none⟩) (YA (m)) (.int .i64 ((rd_T30 l0 g).f0))).trans d;replace d := (cell_far (p := ⟨i,1,none⟩) (YA (n)) (.slice o ((rd_T30 l0 g).f1).length q)).trans d;(try have G := fun (n_ : Nat) => (show ((((ag.drewN n_).setCell ⟨i,0,none⟩ (.int .i64 ((rd_T30 l0 g).f0))).setCell ⟨i,1,none⟩ (.slice o ((rd_T30 l0 g).f1).length q))).cell? _ = some _ from d));clear m;clear n;replace u := eq_true u;replace v := eq_true v)|(go_at_call 62;(with_reducible refine (FB.calls (rd l1 g) (-1) (wrap64 ((((rd_T30 l0 g).f1).length : Int) - 1)) false _ ap.out).mono ?_);rintro e w' ⟨rfl,⟨nd,rfl⟩⟩;(try first|exact ⟨rfl,_,World.drewN_drewN _ _ _⟩|exact ⟨rfl,_,YW _ _ _ _⟩))))
      go_ret;exact ⟨YR,ZQ HB⟩
     have H' := ZA H;clear H;have M : 0 <= (g : Int) := ZD;have U : g < (l0.length : Int) := ZD;obtain ⟨ar,o,q,am,y,z,D,E⟩ := at_T30 ak.out g M U;cases am;replace y := ZX HB y;replace z := ZX HB z;have ai := ZA E;have aj := ZA D;clear E D;replace M := eq_true M;replace U := eq_true U
     go_wp2_with (first|((with_reducible refine Ead (N := 6) rfl ?_);(try (refine Eau (by rfl) ?_;dsimp only));refine ZE 6 #[.int .i64 0,.slice none 0 0] 30 ?_;intro i hg ah hbox hb;have j := ZA (hbox);have s := YQ hg HB;have J := YQ hg HB;replace HB := BS HB hb;clear hb hbox hg;have ab : ah.cell? ⟨i,0,none⟩ = some (.int .i64 0) := ZC j 0 rfl;have ac : ah.cell? ⟨i,1,none⟩ = some (.slice none 0 0) := ZC j 1 rfl;have ad := Ea j.out 0;have ae := Ea j.out 1;have u : 0 <= (g : Int) := ZD;have v : g < (l1.length : Int) := ZD;obtain ⟨t,I,d⟩ := Kd.Ean ao.out g u v;cases I;have m : t.block ≠ i := Nat.ne_of_lt (Nat.lt_of_lt_of_le (by have := World.block_lt_of_cell? _ _ d;first|rwa [add_block] at this|exact this) s.out);have n : t.block ≠ i := Nat.ne_of_lt (Nat.lt_of_lt_of_le (by have := World.block_lt_of_cell? _ _ d;first|rwa [add_block] at this|exact this) s.out);replace d := ZX HB d;replace d := (cell_far (p := ⟨i,0,none⟩) (YA (m)) (.int .i64 ((rd_T30 l0 g).f0))).trans d;replace d := (cell_far (p := ⟨i,1,none⟩) (YA (n)) (.slice o ((rd_T30 l0 g).f1).length q)).trans d;(try have G := fun (n_ : Nat) => (show ((((ah.drewN n_).setCell ⟨i,0,none⟩ (.int .i64 ((rd_T30 l0 g).f0))).setCell ⟨i,1,none⟩ (.slice o ((rd_T30 l0 g).f1).length q))).cell? _ = some _ from d));clear m;clear n;replace u := eq_true u;replace v := eq_true v)|(go_at_call 62;(with_reducible refine (FB.calls (rd l1 g) (-1) (wrap64 ((((rd_T30 l0 g).f1).length : Int) - 1)) true _ ap.out).mono ?_);rintro e w' ⟨rfl,⟨nd,rfl⟩⟩;(try first|exact ⟨rfl,_,World.drewN_drewN _ _ _⟩|exact ⟨rfl,_,YW _ _ _ _⟩)))
     repeat (go_quiet (first|((with_reducible refine Ead (N := 6) rfl ?_);(try (refine Eau (by rfl) ?_;dsimp only));refine ZE 6 #[.int .i64 0,.slice none 0 0] 30 ?_;intro i hg ah hbox hb;have j := ZA (hbox);have s := YQ hg HB;have J := YQ hg HB;replace HB := BS HB hb;clear hb hbox hg;have ab : ah.cell? ⟨i,0,none⟩ = some (.int .i64 0) := ZC j 0 rfl;have ac : ah.cell? ⟨i,1,none⟩ = some (.slice none 0 0) := ZC j 1 rfl;have ad := Ea j.out 0;have ae := Ea j.out 1;have u : 0 <= (g : Int) := ZD;have v : g < (l1.length : Int) := ZD;obtain ⟨t,I,d⟩ := Kd.Ean ao.out g u v;cases I;have m : t.block ≠ i := Nat.ne_of_lt (Nat.lt_of_lt_of_le (by have := World.block_lt_of_cell? _ _ d;first|rwa [add_block] at this|exact this) s.out);have n : t.block ≠ i := Nat.ne_of_lt (Nat.lt_of_lt_of_le (by have := World.block_lt_of_cell? _ _ d;first|rwa [add_block] at this|exact this) s.out);replace d := ZX HB d;replace d := (cell_far (p := ⟨i,0,none⟩) (YA (m)) (.int .i64 ((rd_T30 l0 g).f0))).trans d;replace d := (cell_far (p := ⟨i,1,none⟩) (YA (n)) (.slice o ((rd_T30 l0 g).f1).length q)).trans d;(try have G := fun (n_ : Nat) => (show ((((ah.drewN n_).setCell ⟨i,0,none⟩ (.int .i64 ((rd_T30 l0 g).f0))).setCell ⟨i,1,none⟩ (.slice o ((rd_T30 l0 g).f1).length q))).cell? _ = some _ from d));clear m;clear n;replace u := eq_true u;replace v := eq_true v)|(go_at_call 62;(with_reducible refine (FB.calls (rd l1 g) (-1) (wrap64 ((((rd_T30 l0 g).f1).length : Int) - 1)) true _ ap.out).mono ?_);rintro e w' ⟨rfl,⟨nd,rfl⟩⟩;(try first|exact ⟨rfl,_,World.drewN_drewN _ _ _⟩|exact ⟨rfl,_,YW _ _ _ _⟩)));try go_wp2_with (first|((with_reducible refine Ead (N := 6) rfl ?_);(try (refine Eau (by rfl) ?_;dsimp only));refine ZE 6 #[.int .i64 0,.slice none 0 0] 30 ?_;intro i hg ah hbox hb;have j := ZA (hbox);have s := YQ hg HB;have J := YQ hg HB;replace HB := BS HB hb;clear hb hbox hg;have ab : ah.cell? ⟨i,0,none⟩ = some (.int .i64 0) := ZC j 0 rfl;have ac : ah.cell? ⟨i,1,none⟩ = some (.slice none 0 0) := ZC j 1 rfl;have ad := Ea j.out 0;have ae := Ea j.out 1;have u : 0 <= (g : Int) := ZD;have v : g < (l1.length : Int) := ZD;obtain ⟨t,I,d⟩ := Kd.Ean ao.out g u v;cases I;have m : t.block ≠ i := Nat.ne_of_lt (Nat.lt_of_lt_of_le (by have := World.block_lt_of_cell? _ _ d;first|rwa [add_block] at this|exact this) s.out);have n : t.block ≠ i := Nat.ne_of_lt (Nat.lt_of_lt_of_le (by have := World.block_lt_of_cell? _ _ d;first|rwa [add_block] at this|exact this) s.out);replace d := ZX HB d;replace d := (cell_far (p := ⟨i,0,none⟩) (YA (m)) (.int .i64 ((rd_T30 l0 g).f0))).trans d;replace d := (cell_far (p := ⟨i,1,none⟩) (YA (n)) (.slice o ((rd_T30 l0 g).f1).length q)).trans d;(try have G := fun (n_ : Nat) => (show ((((ah.drewN n_).setCell ⟨i,0,none⟩ (.int .i64 ((rd_T30 l0 g).f0))).setCell ⟨i,1,none⟩ (.slice o ((rd_T30 l0 g).f1).length q))).cell? _ = some _ from d));clear m;clear n;replace u := eq_true u;replace v := eq_true v)|(go_at_call 62;(with_reducible refine (FB.calls (rd l1 g) (-1) (wrap64 ((((rd_T30 l0 g).f1).length : Int) - 1)) true _ ap.out).mono ?_);rintro e w' ⟨rfl,⟨nd,rfl⟩⟩;(try first|exact ⟨rfl,_,World.drewN_drewN _ _ _⟩|exact ⟨rfl,_,YW _ _ _ _⟩))))
     go_roundg k2
     case measure => have := aA.out;have := aC.out;omega
     case rel => exact ⟨(wrap64 (g + 1)),ZG,H',⟨by have := aA.out;have := aC.out;omega⟩,⟨ZQ HB⟩⟩
def FF.f (g : Int) (d : List Int) (a1 : Int) : Option (Bool) := if a1 >= 0 then (if 0 <= a1 then (if a1 < (d.length : Int) then (some ((rd d a1) == g)) else (none)) else (none)) else (some false)
theorem FF.calls (m : Int) (n : Option Addr) (o : Nat) (i : List Int) (a1 : Int) (r : Bool) (w : World) (G : Kd.C (Kd.int .i64) w n i.length i) (I : i.length <= o) (h : FF.f m i a1 = some r) :
  Calls Tryz.prog 106 #[.agg #[.int .i64 m,.slice n i.length o],.int .i64 a1] w fun e w' => e = .returned (.bool r) ∧ Below w.heap.size w w' := by
 have ab := Tryz.underlying30;have u := ZA G;have aa := ZA I;clear G I;have HB := ZA (Below.refl w.heap.size w);have H := h;clear h;unfold FF.f at H;replace H := YI H;rcases H with ⟨M,H⟩|⟨M,H⟩;rotate_left
 ·obtain rfl := Option.some.inj H;go_enter Tryz.func106,Tryz.ntmps106
  go_wp2_with (first|((with_reducible refine Ead (N := 2) rfl ?_);refine ZE 2 #[.int .i64 m,.slice n i.length o] 30 ?_;intro j hg w8 hbox hb;have d := ZA (hbox);have s := YQ hg HB;have t := YQ hg HB;replace HB := BS HB hb;clear hb hbox hg))
  repeat (go_quiet (first|((with_reducible refine Ead (N := 2) rfl ?_);refine ZE 2 #[.int .i64 m,.slice n i.length o] 30 ?_;intro j hg w8 hbox hb;have d := ZA (hbox);have s := YQ hg HB;have t := YQ hg HB;replace HB := BS HB hb;clear hb hbox hg));try go_wp2_with (first|((with_reducible refine Ead (N := 2) rfl ?_);refine ZE 2 #[.int .i64 m,.slice n i.length o] 30 ?_;intro j hg w8 hbox hb;have d := ZA (hbox);have s := YQ hg HB;have t := YQ hg HB;replace HB := BS HB hb;clear hb hbox hg)))
  go_ret;exact ⟨YR,ZQ HB⟩
 replace H := YN H;obtain ⟨ac,H⟩ := H;replace H := YN H;obtain ⟨ad,H⟩ := H;obtain rfl := Option.some.inj H;go_enter Tryz.func106,Tryz.ntmps106
 go_wp2_with (first|((with_reducible refine Ead (N := 2) rfl ?_);refine ZE 2 #[.int .i64 m,.slice n i.length o] 30 ?_;intro j hg w6 hbox hb;have d := ZA (hbox);have s := YQ hg HB;have t := YQ hg HB;replace HB := BS HB hb;clear hb hbox hg;have v : w6.cell? ⟨j,0,none⟩ = some (.int .i64 m) := ZC d 0 rfl;have y : w6.cell? ⟨j,1,none⟩ = some (.slice n i.length o) := ZC d 1 rfl;have z := Ea d.out 0;have D := Ea d.out 1;have p : 0 <= (a1 : Int) := ZD;have q : a1 < (i.length : Int) := ZD;obtain ⟨J,E,g⟩ := Kd.Ean u.out a1 p q;cases E;replace g := ZX HB g;replace p := eq_true p;replace q := eq_true q))
 repeat (go_quiet (first|((with_reducible refine Ead (N := 2) rfl ?_);refine ZE 2 #[.int .i64 m,.slice n i.length o] 30 ?_;intro j hg w6 hbox hb;have d := ZA (hbox);have s := YQ hg HB;have t := YQ hg HB;replace HB := BS HB hb;clear hb hbox hg;have v : w6.cell? ⟨j,0,none⟩ = some (.int .i64 m) := ZC d 0 rfl;have y : w6.cell? ⟨j,1,none⟩ = some (.slice n i.length o) := ZC d 1 rfl;have z := Ea d.out 0;have D := Ea d.out 1;have p : 0 <= (a1 : Int) := ZD;have q : a1 < (i.length : Int) := ZD;obtain ⟨J,E,g⟩ := Kd.Ean u.out a1 p q;cases E;replace g := ZX HB g;replace p := eq_true p;replace q := eq_true q));try go_wp2_with (first|((with_reducible refine Ead (N := 2) rfl ?_);refine ZE 2 #[.int .i64 m,.slice n i.length o] 30 ?_;intro j hg w6 hbox hb;have d := ZA (hbox);have s := YQ hg HB;have t := YQ hg HB;replace HB := BS HB hb;clear hb hbox hg;have v : w6.cell? ⟨j,0,none⟩ = some (.int .i64 m) := ZC d 0 rfl;have y : w6.cell? ⟨j,1,none⟩ = some (.slice n i.length o) := ZC d 1 rfl;have z := Ea d.out 0;have D := Ea d.out 1;have p : 0 <= (a1 : Int) := ZD;have q : a1 < (i.length : Int) := ZD;obtain ⟨J,E,g⟩ := Kd.Ean u.out a1 p q;cases E;replace g := ZX HB g;replace p := eq_true p;replace q := eq_true q)))
 go_ret;exact ⟨YR,ZQ HB⟩
def FT.l0 : Nat -> List Int -> Int -> Int -> List (S30) -> Int -> Int -> Option (Int × Int × Bool)
 | 0,_,_,_,_,_,_ => none
 | k + 1,x1,x7,x8,g,i,d => if d < i then (if 0 <= d then (if d < (g.length : Int) then (if d < (x1.length : Int) then ((FF.f ((rd_T30 g d).f0) ((rd_T30 g d).f1) (rd x1 d)).bind fun j => (if j = true then (FT.l0 k x1 (wrap64 (x7 + 1)) x8 g i (wrap64 (d + 1))) else (if (rd x1 d) >= 0 then (FT.l0 k x1 x7 (wrap64 (x8 + 1)) g i (wrap64 (d + 1))) else (FT.l0 k x1 x7 x8 g i (wrap64 (d + 1)))))) else (none)) else (none)) else (none)) else (some (x7,x8,true))
def FT.f (k : Nat) (l0 : List (S30)) (l1 : List Int) : Option (Int × Int × Bool) := (Fn.f k l0 l1).bind fun d => (if d = true then (FT.l0 k l1 0 0 l0 (l0.length : Int) 0) else (some (0,0,false)))
theorem FT.calls (k : Nat) (A0 : Option Addr) (c0 : Nat) (l0 : List (S30)) (A1 : Option Addr) (c1 : Nat) (l1 : List Int) (r1 : Int) (r2 : Int) (r3 : Bool) (w : World) (aI : Kd.C k30 w A0 l0.length l0) (aJ : l0.length <= c0) (aK : Kd.C (Kd.int .i64) w A1 l1.length l1) (aL : l1.length <= c1) (h : FT.f k l0 l1 = some (r1,r2,r3)) :
  Calls Tryz.prog 46 #[.slice A0 l0.length c0,.slice A1 l1.length c1] w fun e w' => e = .returned (.tuple #[.int .i64 r1,.int .i64 r2,.bool r3]) ∧ Below w.heap.size w w' := by
 have aO := Tryz.underlying30;have al := ZA aI;have aM := ZA aJ;clear aI aJ;have ai := ZA aK;have aN := ZA aL;clear aK aL;have HB := ZA (Below.refl w.heap.size w);have H := h;clear h;unfold FT.f at H;replace H := YJ H;obtain ⟨aP,A3,H⟩ := H;replace H := YF H;rcases H with ⟨rfl,H⟩|⟨rfl,H⟩;rotate_left
 ·simp only [Option.some.injEq,Prod.mk.injEq] at H;obtain ⟨rfl,rfl,rfl⟩ := H;go_enter Tryz.func46,Tryz.ntmps46
  go_wp2_with (first|((with_reducible refine YG 105 ?_);refine YC (some 13) Tryz.func105 #[.slice A0 l0.length c0,.slice A1 l1.length c1] (Fn.calls k _ _ l0 _ _ l1 false _ (ZR al.out) aM.out (ZR ai.out) aN.out A3.out) ?_;rintro e aX ⟨rfl,hb⟩;refine ⟨_,rfl,?_⟩;replace HB := BS HB hb))
  go_ret3
  exact ⟨YR,ZQ HB⟩
 have H' := ZA H;clear H;go_enter Tryz.func46,Tryz.ntmps46
 go_wp2_with (first|((with_reducible refine YG 105 ?_);refine YC (some 13) Tryz.func105 #[.slice A0 l0.length c0,.slice A1 l1.length c1] (Fn.calls k _ _ l0 _ _ l1 true _ (ZR al.out) aM.out (ZR ai.out) aN.out A3.out) ?_;rintro e w5 ⟨rfl,hb⟩;refine ⟨_,rfl,?_⟩;replace HB := BS HB hb))
 go_loopg [7,8,17] k (fun kq v7 v8 aQ w' => ∃ (Y : Int) (Z : Int) (d : Int),v7 = .int .i64 Y ∧ v8 = .int .i64 Z ∧ aQ = .int .i64 d ∧ Aside0 (FT.l0 kq l1 Y Z l0 (l0.length : Int) d = some (r1,r2,r3)) ∧ Aside0 (kq <= k) ∧ Aside0 (Below w.heap.size w w'))
 case atStart => exact ⟨(0),(0),(0),ZG,ZG,ZG,H',⟨Nat.le_refl _⟩,⟨ZQ HB⟩⟩
 case round =>
  clear H';obtain ⟨Y,Z,d,rfl,rfl,rfl,HA,ak,HB⟩ := hrel;cases gk with
  | zero => exact absurd HA.out (by simp [FT.l0])
  | succ k1 =>
   have H := HA.out;clear HA;simp only [FT.l0] at H;replace H := YI H;rcases H with ⟨aF,H⟩|⟨aF,H⟩;rotate_left
   ·simp only [Option.some.injEq,Prod.mk.injEq] at H;obtain ⟨rfl,rfl,rfl⟩ := H;go_wp2
    go_ret3
    exact ⟨YR,ZQ HB⟩
   replace H := YN H;obtain ⟨aR,H⟩ := H;replace H := YN H;obtain ⟨aS,H⟩ := H;replace H := YN H;obtain ⟨aT,H⟩ := H;replace H := YJ H;obtain ⟨aG,aH,H⟩ := H;by_cases aq : aG = true
   ·subst aq;rw [if_pos rfl] at H;have H' := ZA H;clear H;have G : 0 <= (d : Int) := ZD;have I : d < (l0.length : Int) := ZD;obtain ⟨af,m,o,aa,q,s,t,u⟩ := at_T30 al.out d G I;cases aa;replace q := ZX HB q;replace s := ZX HB s;have z := ZA u;have D := ZA t;clear u t;replace G := eq_true G;replace I := eq_true I
    try go_wp2_with (first|((with_reducible refine Ead (N := 10) rfl ?_);refine ZE 10 #[.int .i64 0,.slice none 0 0] 30 ?_;intro j hg am hbox hb;have g := ZA (hbox);have ag := YQ hg HB;have ah := YQ hg HB;replace HB := BS HB hb;clear hb hbox hg;have ar : am.cell? ⟨j,0,none⟩ = some (.int .i64 0) := ZC g 0 rfl;have au : am.cell? ⟨j,1,none⟩ = some (.slice none 0 0) := ZC g 1 rfl;have av := Ea g.out 0;have aw := Ea g.out 1))
    have ab : Aside0 (((am.setCell ⟨j,0,none⟩ (.int .i64 ((rd_T30 l0 d).f0))).setCell ⟨j,1,none⟩ (.slice m ((rd_T30 l0 d).f1).length o)).heap[j]? = some (.cells #[.int .i64 ((rd_T30 l0 d).f0),.slice m ((rd_T30 l0 d).f1).length o] 30 (0,0))) := ⟨by refine ZY ?_;refine Eae (cs := #[.int .i64 ((rd_T30 l0 d).f0),.slice none 0 0]) ?_ 1 _ rfl;refine ZY ?_;refine Eae (cs := #[.int .i64 0,.slice none 0 0]) ?_ 0 _ rfl;refine ZY ?_;exact g.out⟩;have ac : Aside0 (Below w.heap.size w ((am.setCell ⟨j,0,none⟩ (.int .i64 ((rd_T30 l0 d).f0))).setCell ⟨j,1,none⟩ (.slice m ((rd_T30 l0 d).f1).length o))) := ⟨ZQ HB⟩;generalize ((am.setCell ⟨j,0,none⟩ (.int .i64 ((rd_T30 l0 d).f0))).setCell ⟨j,1,none⟩ (.slice m ((rd_T30 l0 d).f1).length o)) = aU at ab ac ⊢;have g := ab;have HB := ac;clear ab ac;replace g := ZA (Ear g.out);replace HB := ZA (Eaf HB.out);have J : 0 <= (d : Int) := ZD;have M : d < (l1.length : Int) := ZD;obtain ⟨U,ad,p⟩ := Kd.Ean ai.out d J M;have y := p;cases ad;replace p := ZX HB p;replace J := eq_true J;replace M := eq_true M;refine Ebe (n := 7) (S := fun w' => w'.cell? ⟨j,0,none⟩ = some (.int .i64 ((rd_T30 l0 d).f0)) ∧ w'.cell? ⟨j,1,none⟩ = some (.slice m ((rd_T30 l0 d).f1).length o) ∧ w'.cell? (U.add (d).toNat) = some (.int .i64 (rd l1 d))) (ds := []) (ZL 7 0) (by kernel_rfl) rfl rfl ⟨ZC g 0 rfl,ZC g 1 rfl,(ZX HB y)⟩ (fun hHeld => ?_);generalize aU.drew = aY at g HB p hHeld ⊢;refine Ecp (i := 1) (N := some 24) (v := ?_) (a' := ?_) (ZL 7 2) rfl rfl (by kernel_rfl) (fun _ _ _ h => h) (Or.inl ⟨by rfl,?_⟩) ?_ ?_;rotate_left
    ·intro w'
     go_simp
     with_reducible rfl
    rotate_left
    ·simp only [Act.put,zuA,zuB,zuC,Eay,Eba];rfl
    refine Ecp (i := 2) (N := some 25) (v := ?_) (a' := ?_) (ZL 7 6) rfl rfl (by kernel_rfl) (fun _ _ _ h => h) (Or.inl ⟨by rfl,?_⟩) ?_ ?_;rotate_left
    ·intro w'
     go_simp
     with_reducible rfl
    rotate_left
    ·simp only [Act.put,zuA,zuB,zuC,Eay,Eba];rfl
    refine Ecp (i := 3) (N := some 26) (v := ?_) (a' := ?_) (ZL 7 14) rfl rfl (by kernel_rfl) (fun _ _ _ h => h) (Or.inl ⟨by rfl,?_⟩) ?_ ?_;rotate_left
    ·intro w'
     go_simp
     with_reducible rfl
    rotate_left
    ·simp only [Act.put,zuA,zuB,zuC,Eay,Eba];rfl
    refine Edy (i := 0) (N := some 23) (v := ?_) (a' := ?_) (ZL 7 15) rfl rfl (by kernel_rfl) (fun _ _ _ h => h) (Or.inl ⟨by rfl,?_⟩) hHeld ?_ ?_;rotate_left
    ·rintro w' ⟨s0,s1,s2⟩
     go_simp
     with_reducible rfl
    rotate_left
    ·simp only [Act.put,zuA,zuB,zuC,Eay,Eba];rfl
    refine Edy (i := 4) (N := some 27) (v := ?_) (a' := ?_) (ZL 7 31) rfl rfl (by kernel_rfl) (fun _ _ _ h => h) (Or.inl ⟨by rfl,?_⟩) hHeld ?_ ?_;rotate_left
    ·rintro w' ⟨s0,s1,s2⟩
     go_simp
     with_reducible rfl
    rotate_left
    ·simp only [Act.put,zuA,zuB,zuC,Eay,Eba];rfl
    refine one_ (i := 5) (N := some 28) (ZL 7 63) rfl rfl (by kernel_rfl) (by decide) (fun K hK => ?_);refine YS Tryz.func106 #[.agg #[.int .i64 ((rd_T30 l0 d).f0),.slice m ((rd_T30 l0 d).f1).length o],.int .i64 (rd l1 d)] ?_
    with_reducible refine (FF.calls ((rd_T30 l0 d).f0) _ _ ((rd_T30 l0 d).f1) (rd l1 d) true _ (ZR (Kd.Eab z.out HB.out)) D.out aH.out).mono ?_
    rintro e aZ ⟨rfl,hb⟩;refine ⟨_,rfl,?_⟩;replace g := ZA (Eac (ZH g) hb);replace HB := BS HB hb;refine hK.out _ _ ⟨ZC g 0 rfl,ZC g 1 rfl,(ZX HB y)⟩ (fun hHeld => ?_);clear hK K;refine YZ (some 28) ?_;refine Ecp (i := 6) (N := some 22) (v := ?_) (a' := ?_) (ZL 7 127) rfl rfl (by kernel_rfl) (fun _ _ _ h => h) (Or.inl ⟨by rfl,?_⟩) ?_ ?_;rotate_left
    ·intro w'
     go_simp
     with_reducible rfl
    rotate_left
    ·simp only [Act.put,zuA,zuB,zuC,Eay,Eba];rfl
    refine Ecb (by kernel_rfl) ?_
    try go_wp2
    go_roundg k1
    case measure => have := ak.out;omega
    case rel => exact ⟨(wrap64 (Y + 1)),(Z),(wrap64 (d + 1)),ZG,ZG,ZG,H',⟨by have := ak.out;omega⟩,⟨ZQ HB⟩⟩
   replace aq := Bool.eq_false_iff.mpr aq;subst aq;rw [if_neg (show ¬ (false = true) by decide)] at H;replace H := YI H;rcases H with ⟨an,H⟩|⟨an,H⟩;rotate_left
   ·have H' := ZA H;clear H;have G : 0 <= (d : Int) := ZD;have I : d < (l0.length : Int) := ZD;obtain ⟨af,m,o,aa,q,s,t,u⟩ := at_T30 al.out d G I;cases aa;replace q := ZX HB q;replace s := ZX HB s;have z := ZA u;have D := ZA t;clear u t;replace G := eq_true G;replace I := eq_true I
    try go_wp2_with (first|((with_reducible refine Ead (N := 10) rfl ?_);refine ZE 10 #[.int .i64 0,.slice none 0 0] 30 ?_;intro j hg ao hbox hb;have g := ZA (hbox);have ag := YQ hg HB;have ah := YQ hg HB;replace HB := BS HB hb;clear hb hbox hg;have ax : ao.cell? ⟨j,0,none⟩ = some (.int .i64 0) := ZC g 0 rfl;have ay : ao.cell? ⟨j,1,none⟩ = some (.slice none 0 0) := ZC g 1 rfl;have az := Ea g.out 0;have aA := Ea g.out 1))
    have ab : Aside0 (((ao.setCell ⟨j,0,none⟩ (.int .i64 ((rd_T30 l0 d).f0))).setCell ⟨j,1,none⟩ (.slice m ((rd_T30 l0 d).f1).length o)).heap[j]? = some (.cells #[.int .i64 ((rd_T30 l0 d).f0),.slice m ((rd_T30 l0 d).f1).length o] 30 (0,0))) := ⟨by refine ZY ?_;refine Eae (cs := #[.int .i64 ((rd_T30 l0 d).f0),.slice none 0 0]) ?_ 1 _ rfl;refine ZY ?_;refine Eae (cs := #[.int .i64 0,.slice none 0 0]) ?_ 0 _ rfl;refine ZY ?_;exact g.out⟩;have ac : Aside0 (Below w.heap.size w ((ao.setCell ⟨j,0,none⟩ (.int .i64 ((rd_T30 l0 d).f0))).setCell ⟨j,1,none⟩ (.slice m ((rd_T30 l0 d).f1).length o))) := ⟨ZQ HB⟩;generalize ((ao.setCell ⟨j,0,none⟩ (.int .i64 ((rd_T30 l0 d).f0))).setCell ⟨j,1,none⟩ (.slice m ((rd_T30 l0 d).f1).length o)) = aV at ab ac ⊢;have g := ab;have HB := ac;clear ab ac;replace g := ZA (Ear g.out);replace HB := ZA (Eaf HB.out);have J : 0 <= (d : Int) := ZD;have M : d < (l1.length : Int) := ZD;obtain ⟨U,ad,p⟩ := Kd.Ean ai.out d J M;have y := p;cases ad;replace p := ZX HB p;replace J := eq_true J;replace M := eq_true M;refine Ebe (n := 7) (S := fun w' => w'.cell? ⟨j,0,none⟩ = some (.int .i64 ((rd_T30 l0 d).f0)) ∧ w'.cell? ⟨j,1,none⟩ = some (.slice m ((rd_T30 l0 d).f1).length o) ∧ w'.cell? (U.add (d).toNat) = some (.int .i64 (rd l1 d))) (ds := []) (ZL 7 0) (by kernel_rfl) rfl rfl ⟨ZC g 0 rfl,ZC g 1 rfl,(ZX HB y)⟩ (fun hHeld => ?_);generalize aV.drew = a0 at g HB p hHeld ⊢;refine Ecp (i := 1) (N := some 24) (v := ?_) (a' := ?_) (ZL 7 2) rfl rfl (by kernel_rfl) (fun _ _ _ h => h) (Or.inl ⟨by rfl,?_⟩) ?_ ?_;rotate_left
    ·intro w'
     go_simp
     with_reducible rfl
    rotate_left
    ·simp only [Act.put,zuA,zuB,zuC,Eay,Eba];rfl
    refine Ecp (i := 2) (N := some 25) (v := ?_) (a' := ?_) (ZL 7 6) rfl rfl (by kernel_rfl) (fun _ _ _ h => h) (Or.inl ⟨by rfl,?_⟩) ?_ ?_;rotate_left
    ·intro w'
     go_simp
     with_reducible rfl
    rotate_left
    ·simp only [Act.put,zuA,zuB,zuC,Eay,Eba];rfl
    refine Ecp (i := 3) (N := some 26) (v := ?_) (a' := ?_) (ZL 7 14) rfl rfl (by kernel_rfl) (fun _ _ _ h => h) (Or.inl ⟨by rfl,?_⟩) ?_ ?_;rotate_left
    ·intro w'
     go_simp
     with_reducible rfl
    rotate_left
    ·simp only [Act.put,zuA,zuB,zuC,Eay,Eba];rfl
    refine Edy (i := 0) (N := some 23) (v := ?_) (a' := ?_) (ZL 7 15) rfl rfl (by kernel_rfl) (fun _ _ _ h => h) (Or.inl ⟨by rfl,?_⟩) hHeld ?_ ?_;rotate_left
    ·rintro w' ⟨s0,s1,s2⟩
     go_simp
     with_reducible rfl
    rotate_left
    ·simp only [Act.put,zuA,zuB,zuC,Eay,Eba];rfl
    refine Edy (i := 4) (N := some 27) (v := ?_) (a' := ?_) (ZL 7 31) rfl rfl (by kernel_rfl) (fun _ _ _ h => h) (Or.inl ⟨by rfl,?_⟩) hHeld ?_ ?_;rotate_left
    ·rintro w' ⟨s0,s1,s2⟩
     go_simp
     with_reducible rfl
    rotate_left
    ·simp only [Act.put,zuA,zuB,zuC,Eay,Eba];rfl
    refine one_ (i := 5) (N := some 28) (ZL 7 63) rfl rfl (by kernel_rfl) (by decide) (fun K hK => ?_);refine YS Tryz.func106 #[.agg #[.int .i64 ((rd_T30 l0 d).f0),.slice m ((rd_T30 l0 d).f1).length o],.int .i64 (rd l1 d)] ?_
    with_reducible refine (FF.calls ((rd_T30 l0 d).f0) _ _ ((rd_T30 l0 d).f1) (rd l1 d) false _ (ZR (Kd.Eab z.out HB.out)) D.out aH.out).mono ?_
    rintro e a1 ⟨rfl,hb⟩;refine ⟨_,rfl,?_⟩;replace g := ZA (Eac (ZH g) hb);replace HB := BS HB hb;refine hK.out _ _ ⟨ZC g 0 rfl,ZC g 1 rfl,(ZX HB y)⟩ (fun hHeld => ?_);clear hK K;refine YZ (some 28) ?_;refine Ecp (i := 6) (N := some 22) (v := ?_) (a' := ?_) (ZL 7 127) rfl rfl (by kernel_rfl) (fun _ _ _ h => h) (Or.inl ⟨by rfl,?_⟩) ?_ ?_;rotate_left
    ·intro w'
     go_simp
     with_reducible rfl
    rotate_left
    ·simp only [Act.put,zuA,zuB,zuC,Eay,Eba];rfl
    refine Ecb (by kernel_rfl) ?_;have V : 0 <= (d : Int) := ZD;have X : d < (l1.length : Int) := ZD;obtain ⟨ae,aj,E⟩ := Kd.Ean ai.out d V X;obtain rfl : U = ae := (by injection aj);replace E := ZX HB E;replace V := eq_true V;replace X := eq_true X
    try go_wp2
    go_roundg k1
    case measure => have := ak.out;omega
    case rel => exact ⟨(Y),(Z),(wrap64 (d + 1)),ZG,ZG,ZG,H',⟨by have := ak.out;omega⟩,⟨ZQ HB⟩⟩
   have H' := ZA H;clear H;have G : 0 <= (d : Int) := ZD;have I : d < (l0.length : Int) := ZD;obtain ⟨af,m,o,aa,q,s,t,u⟩ := at_T30 al.out d G I;cases aa;replace q := ZX HB q;replace s := ZX HB s;have z := ZA u;have D := ZA t;clear u t;replace G := eq_true G;replace I := eq_true I
   try go_wp2_with (first|((with_reducible refine Ead (N := 10) rfl ?_);refine ZE 10 #[.int .i64 0,.slice none 0 0] 30 ?_;intro j hg ap hbox hb;have g := ZA (hbox);have ag := YQ hg HB;have ah := YQ hg HB;replace HB := BS HB hb;clear hb hbox hg;have aB : ap.cell? ⟨j,0,none⟩ = some (.int .i64 0) := ZC g 0 rfl;have aC : ap.cell? ⟨j,1,none⟩ = some (.slice none 0 0) := ZC g 1 rfl;have aD := Ea g.out 0;have aE := Ea g.out 1))
   have ab : Aside0 (((ap.setCell ⟨j,0,none⟩ (.int .i64 ((rd_T30 l0 d).f0))).setCell ⟨j,1,none⟩ (.slice m ((rd_T30 l0 d).f1).length o)).heap[j]? = some (.cells #[.int .i64 ((rd_T30 l0 d).f0),.slice m ((rd_T30 l0 d).f1).length o] 30 (0,0))) := ⟨by refine ZY ?_;refine Eae (cs := #[.int .i64 ((rd_T30 l0 d).f0),.slice none 0 0]) ?_ 1 _ rfl;refine ZY ?_;refine Eae (cs := #[.int .i64 0,.slice none 0 0]) ?_ 0 _ rfl;refine ZY ?_;exact g.out⟩;have ac : Aside0 (Below w.heap.size w ((ap.setCell ⟨j,0,none⟩ (.int .i64 ((rd_T30 l0 d).f0))).setCell ⟨j,1,none⟩ (.slice m ((rd_T30 l0 d).f1).length o))) := ⟨ZQ HB⟩;generalize ((ap.setCell ⟨j,0,none⟩ (.int .i64 ((rd_T30 l0 d).f0))).setCell ⟨j,1,none⟩ (.slice m ((rd_T30 l0 d).f1).length o)) = aW at ab ac ⊢;have g := ab;have HB := ac;clear ab ac;replace g := ZA (Ear g.out);replace HB := ZA (Eaf HB.out);have J : 0 <= (d : Int) := ZD;have M : d < (l1.length : Int) := ZD;obtain ⟨U,ad,p⟩ := Kd.Ean ai.out d J M;have y := p;cases ad;replace p := ZX HB p;replace J := eq_true J;replace M := eq_true M;refine Ebe (n := 7) (S := fun w' => w'.cell? ⟨j,0,none⟩ = some (.int .i64 ((rd_T30 l0 d).f0)) ∧ w'.cell? ⟨j,1,none⟩ = some (.slice m ((rd_T30 l0 d).f1).length o) ∧ w'.cell? (U.add (d).toNat) = some (.int .i64 (rd l1 d))) (ds := []) (ZL 7 0) (by kernel_rfl) rfl rfl ⟨ZC g 0 rfl,ZC g 1 rfl,(ZX HB y)⟩ (fun hHeld => ?_);generalize aW.drew = a2 at g HB p hHeld ⊢;refine Ecp (i := 1) (N := some 24) (v := ?_) (a' := ?_) (ZL 7 2) rfl rfl (by kernel_rfl) (fun _ _ _ h => h) (Or.inl ⟨by rfl,?_⟩) ?_ ?_;rotate_left
   ·intro w'
    go_simp
    with_reducible rfl
   rotate_left
   ·simp only [Act.put,zuA,zuB,zuC,Eay,Eba];rfl
   refine Ecp (i := 2) (N := some 25) (v := ?_) (a' := ?_) (ZL 7 6) rfl rfl (by kernel_rfl) (fun _ _ _ h => h) (Or.inl ⟨by rfl,?_⟩) ?_ ?_;rotate_left
   ·intro w'
    go_simp
    with_reducible rfl
   rotate_left
   ·simp only [Act.put,zuA,zuB,zuC,Eay,Eba];rfl
   refine Ecp (i := 3) (N := some 26) (v := ?_) (a' := ?_) (ZL 7 14) rfl rfl (by kernel_rfl) (fun _ _ _ h => h) (Or.inl ⟨by rfl,?_⟩) ?_ ?_;rotate_left
   ·intro w'
    go_simp
    with_reducible rfl
   rotate_left
   ·simp only [Act.put,zuA,zuB,zuC,Eay,Eba];rfl
   refine Edy (i := 0) (N := some 23) (v := ?_) (a' := ?_) (ZL 7 15) rfl rfl (by kernel_rfl) (fun _ _ _ h => h) (Or.inl ⟨by rfl,?_⟩) hHeld ?_ ?_;rotate_left
   ·rintro w' ⟨s0,s1,s2⟩
    go_simp
    with_reducible rfl
   rotate_left
   ·simp only [Act.put,zuA,zuB,zuC,Eay,Eba];rfl
   refine Edy (i := 4) (N := some 27) (v := ?_) (a' := ?_) (ZL 7 31) rfl rfl (by kernel_rfl) (fun _ _ _ h => h) (Or.inl ⟨by rfl,?_⟩) hHeld ?_ ?_;rotate_left
   ·rintro w' ⟨s0,s1,s2⟩
    go_simp
    with_reducible rfl
   rotate_left
   ·simp only [Act.put,zuA,zuB,zuC,Eay,Eba];rfl
   refine one_ (i := 5) (N := some 28) (ZL 7 63) rfl rfl (by kernel_rfl) (by decide) (fun K hK => ?_);refine YS Tryz.func106 #[.agg #[.int .i64 ((rd_T30 l0 d).f0),.slice m ((rd_T30 l0 d).f1).length o],.int .i64 (rd l1 d)] ?_
   with_reducible refine (FF.calls ((rd_T30 l0 d).f0) _ _ ((rd_T30 l0 d).f1) (rd l1 d) false _ (ZR (Kd.Eab z.out HB.out)) D.out aH.out).mono ?_
   rintro e a3 ⟨rfl,hb⟩;refine ⟨_,rfl,?_⟩;replace g := ZA (Eac (ZH g) hb);replace HB := BS HB hb;refine hK.out _ _ ⟨ZC g 0 rfl,ZC g 1 rfl,(ZX HB y)⟩ (fun hHeld => ?_);clear hK K;refine YZ (some 28) ?_;refine Ecp (i := 6) (N := some 22) (v := ?_) (a' := ?_) (ZL 7 127) rfl rfl (by kernel_rfl) (fun _ _ _ h => h) (Or.inl ⟨by rfl,?_⟩) ?_ ?_;rotate_left
   ·intro w'
    go_simp
    with_reducible rfl
   rotate_left
   ·simp only [Act.put,zuA,zuB,zuC,Eay,Eba];rfl
   refine Ecb (by kernel_rfl) ?_;have V : 0 <= (d : Int) := ZD;have X : d < (l1.length : Int) := ZD;obtain ⟨ae,aj,E⟩ := Kd.Ean ai.out d V X;obtain rfl : U = ae := (by injection aj);replace E := ZX HB E;replace V := eq_true V;replace X := eq_true X
   try go_wp2
   go_roundg k1
   case measure => have := ak.out;omega
   case rel => exact ⟨(Y),(wrap64 (Z + 1)),(wrap64 (d + 1)),ZG,ZG,ZG,H',⟨by have := ak.out;omega⟩,⟨ZQ HB⟩⟩
def FI.l0 : Nat -> List Int -> Int -> Int -> Int -> List Int -> Option (Bool)
 | 0,_,_,_,_,_ => none
 | k + 1,x6,x7,x8,g,d => if x8 < x7 then (if 0 <= x8 then (if x8 < (x6.length : Int) then ((FU.f (rd x6 x8) 0 15).bind fun i => (if i = true then (if x8 <= (d.length : Int) then ((Fs.f k (d.take (x8 : Int).toNat) (rd x6 x8)).bind fun j => (if j = true then (some false) else (FI.l0 k x6 x7 (wrap64 (x8 + 1)) g d))) else (none)) else (some false))) else (none)) else (none)) else ((FU.f (d.length : Int) 2 4).bind fun m => (if m = true then ((Fs.f k d g).bind fun n => (some n)) else (some false)))
def FI.f (k : Nat) (g : Int) (d : List Int) : Option (Bool) := FI.l0 k d (d.length : Int) 0 g d
theorem FI.calls (k : Nat) (n : Int) (u : Option Addr) (o : Nat) (d : List Int) (r : Bool) (w : World) (E : Kd.C (Kd.int .i64) w u d.length d) (G : d.length <= o) (h : FI.f k n d = some r) :
  Calls Tryz.prog 79 #[.agg #[.int .i64 n,.slice u d.length o]] w fun e w' => e = .returned (.bool r) ∧ Below w.heap.size w w' := by
 have aK := Tryz.underlying30;have s := ZA E;have v := ZA G;clear E G;have HB := ZA (Below.refl w.heap.size w);have H : (FI.l0 k d (d.length : Int) 0 n d) = some r := h;clear h;have H' := ZA H;clear H;go_enter Tryz.func79,Tryz.ntmps79
 go_wp2_with (first|((with_reducible refine Ead (N := 1) rfl ?_);refine ZE 1 #[.int .i64 n,.slice u d.length o] 30 ?_;intro m hg w2 hbox hb;have g := ZA (hbox);have aD := YQ hg HB;have aE := YQ hg HB;replace HB := BS HB hb;clear hb hbox hg;have au : w2.cell? ⟨m,0,none⟩ = some (.int .i64 n) := ZC g 0 rfl;have av : w2.cell? ⟨m,1,none⟩ = some (.slice u d.length o) := ZC g 1 rfl;have aw := Ea g.out 0;have ax := Ea g.out 1))
 go_loopg [8] k (fun kq v8 w' => ∃ (i : Int),v8 = .int .i64 i ∧ Aside0 (FI.l0 kq d (d.length : Int) i n d = some r) ∧ Aside0 (kq <= k) ∧ Aside0 (w'.heap[m]? = some (.cells #[.int .i64 n,(.slice u d.length o)] 30 (0,0))) ∧ Aside0 (Below w.heap.size w w'))
 case atStart => exact ⟨(0),ZG,H',⟨Nat.le_refl _⟩,⟨ZH g⟩,⟨ZQ HB⟩⟩
 case round =>
  clear H';obtain ⟨i,rfl,HA,aF,g,HB⟩ := hrel;cases gk with
  | zero => exact absurd HA.out (by simp [FI.l0])
  | succ k1 =>
   have H := HA.out;clear HA;simp only [FI.l0] at H;replace H := YI H;rcases H with ⟨ay,H⟩|⟨ay,H⟩;rotate_left
   ·replace H := ZI H;obtain ⟨aL,V,H⟩ := H;have aG := ZA V;clear V;replace H := YF H;rcases H with ⟨rfl,H⟩|⟨rfl,H⟩;rotate_left
    ·obtain rfl := Option.some.inj H;have ab : wr.cell? ⟨m,0,none⟩ = some (.int .i64 n) := ZC g 0 rfl;have ac : wr.cell? ⟨m,1,none⟩ = some (.slice u d.length o) := ZC g 1 rfl;have ad := Ea g.out 0;have ae := Ea g.out 1
     go_wp2_with (first|((with_reducible refine YG 65 ?_);refine YC (some 28) Tryz.func65 #[.int .i64 (d.length : Int),.int .i64 2,.int .i64 4] (FU.calls (d.length : Int) 2 4 false _ aG.out) ?_;rintro e w' ⟨rfl,⟨nd,rfl⟩⟩;refine ⟨_,rfl,?_⟩))
     go_ret;exact ⟨YR,ZQ HB⟩
    replace H := YJ H;obtain ⟨az,aM,H⟩ := H;obtain rfl := Option.some.inj H;have af : wr.cell? ⟨m,0,none⟩ = some (.int .i64 n) := ZC g 0 rfl;have ag : wr.cell? ⟨m,1,none⟩ = some (.slice u d.length o) := ZC g 1 rfl;have ah := Ea g.out 0;have ai := Ea g.out 1
    go_wp2_with (first|((with_reducible refine YG 65 ?_);refine YC (some 28) Tryz.func65 #[.int .i64 (d.length : Int),.int .i64 2,.int .i64 4] (FU.calls (d.length : Int) 2 4 true _ aG.out) ?_;rintro e w' ⟨rfl,⟨nd,rfl⟩⟩;refine ⟨_,rfl,?_⟩)|(go_at_call 72;(with_reducible refine (Fs.calls k1 _ _ d n az _ (ZR (Kd.Eab s.out (ZQ HB))) v.out aM.out).mono ?_);rintro e w' ⟨rfl,⟨nd,rfl⟩⟩))
    go_ret;exact ⟨YR,ZQ HB⟩
   replace H := YN H;obtain ⟨aN,H⟩ := H;replace H := YN H;obtain ⟨aO,H⟩ := H;replace H := YJ H;obtain ⟨aP,A7,H⟩ := H;replace H := YF H;rcases H with ⟨rfl,H⟩|⟨rfl,H⟩;rotate_left
   ·obtain rfl := Option.some.inj H;have p : 0 <= (i : Int) := ZD;have q : i < (d.length : Int) := ZD;obtain ⟨t,y,j⟩ := Kd.Ean s.out i p q;cases y;replace j := ZX HB j;replace p := eq_true p;replace q := eq_true q
    go_wp2_with (first|((with_reducible refine YG 65 ?_);refine YC (some 14) Tryz.func65 #[.int .i64 (rd d i),.int .i64 0,.int .i64 15] (FU.calls (rd d i) 0 15 false _ A7.out) ?_;rintro e w' ⟨rfl,⟨nd,rfl⟩⟩;refine ⟨_,rfl,?_⟩))
    go_ret;exact ⟨YR,ZQ HB⟩
   have aQ := eq_true (ZD : 0 <= i);replace H := YM H;obtain ⟨c10,H⟩ := H;have aH := eq_true c10;have aI := decide_eq_true c10;clear c10;replace H := YJ H;obtain ⟨aA,aJ,H⟩ := H;by_cases aj : aA = true
   ·subst aj;rw [if_pos rfl] at H;obtain rfl := Option.some.inj H;have p : 0 <= (i : Int) := ZD;have q : i < (d.length : Int) := ZD;obtain ⟨t,y,j⟩ := Kd.Ean s.out i p q;cases y;replace j := ZX HB j;replace p := eq_true p;replace q := eq_true q
    go_wp2_with (first|((with_reducible refine YG 65 ?_);refine YC (some 14) Tryz.func65 #[.int .i64 (rd d i),.int .i64 0,.int .i64 15] (FU.calls (rd d i) 0 15 true _ A7.out) ?_;rintro e w' ⟨rfl,⟨nd,rfl⟩⟩;refine ⟨_,rfl,?_⟩;have ak : wr.cell? ⟨m,0,none⟩ = some (.int .i64 n) := ZC g 0 rfl;have al : wr.cell? ⟨m,1,none⟩ = some (.slice (some t) d.length o) := ZC g 1 rfl;have am := Ea g.out 0;have an := Ea g.out 1;obtain ⟨aR,I,_,J,_⟩ := info_parts info3;obtain ⟨aB,X,Y⟩ := Efe (P := Tryz.prog) (Value.int .i64) 0 28 3 .i64 Tryz.underlying28 I J (some t) o d i ZD ZD v.out;have z := ZA (Kd.Ehd (h1 := fun _ => rfl) (X _ (Kd.Eeg s.out)));have D := ZA Y;clear X Y I J)|(go_at_call 72;(rw [show (i).toNat = (d.take (i : Int).toNat).length by (rw [List.length_take,Nat.min_eq_left];have h_ : (i <= (d.length : Int)) = True := (by assumption);have := of_eq_true h_;omega)]);(with_reducible refine (Fs.calls k1 _ _ (d.take (i : Int).toNat) (rd d i) true _ ?side1 D.out aJ.out).mono ?_);(case side1 => exact ZR (Kd.Eab z.out (ZQ HB)));rintro e w' ⟨rfl,⟨nd,rfl⟩⟩))
    go_ret;exact ⟨YR,ZQ HB⟩
   replace aj := Bool.eq_false_iff.mpr aj;subst aj;rw [if_neg (show ¬ (false = true) by decide)] at H;have H' := ZA H;clear H;have p : 0 <= (i : Int) := ZD;have q : i < (d.length : Int) := ZD;obtain ⟨t,y,j⟩ := Kd.Ean s.out i p q;cases y;replace j := ZX HB j;replace p := eq_true p;replace q := eq_true q
   go_wp2_with (first|((with_reducible refine YG 65 ?_);refine YC (some 14) Tryz.func65 #[.int .i64 (rd d i),.int .i64 0,.int .i64 15] (FU.calls (rd d i) 0 15 true _ A7.out) ?_;rintro e w' ⟨rfl,⟨nd,rfl⟩⟩;refine ⟨_,rfl,?_⟩;have ao : wr.cell? ⟨m,0,none⟩ = some (.int .i64 n) := ZC g 0 rfl;have ap : wr.cell? ⟨m,1,none⟩ = some (.slice (some t) d.length o) := ZC g 1 rfl;have aq := Ea g.out 0;have ar := Ea g.out 1;obtain ⟨aS,M,_,U,_⟩ := info_parts info3;obtain ⟨aC,Z,aa⟩ := Efe (P := Tryz.prog) (Value.int .i64) 0 28 3 .i64 Tryz.underlying28 M U (some t) o d i ZD ZD v.out;have z := ZA (Kd.Ehd (h1 := fun _ => rfl) (Z _ (Kd.Eeg s.out)));have D := ZA aa;clear Z aa M U)|(go_at_call 72;(rw [show (i).toNat = (d.take (i : Int).toNat).length by (rw [List.length_take,Nat.min_eq_left];have h_ : (i <= (d.length : Int)) = True := (by assumption);have := of_eq_true h_;omega)]);(with_reducible refine (Fs.calls k1 _ _ (d.take (i : Int).toNat) (rd d i) false _ ?side1 D.out aJ.out).mono ?_);(case side1 => exact ZR (Kd.Eab z.out (ZQ HB)));rintro e w' ⟨rfl,⟨nd,rfl⟩⟩))
   go_roundg k1
   case measure => have := aF.out;omega
   case rel => exact ⟨(wrap64 (i + 1)),ZG,H',⟨by have := aF.out;omega⟩,⟨ZH g⟩,⟨ZQ HB⟩⟩
mutual
def Fk.j0 : Nat -> List (S30) -> List Int -> Bool -> Option (Bool)
 | 0,_,_,_ => none
 | k + 1,x0,x1,d => if d = true then (some false) else (Fk.l0 k x1 x0 (x0.length : Int) 0)
def Fk.l0 : Nat -> List Int -> List (S30) -> Int -> Int -> Option (Bool)
 | 0,_,_,_,_ => none
 | k + 1,x1,g,m,d => if d < m then (if 0 <= d then (if d < (g.length : Int) then ((FI.f k ((rd_T30 g d).f0) ((rd_T30 g d).f1)).bind fun i => (if i = true then (if d < (x1.length : Int) then ((FU.f (rd x1 d) (-1) (wrap64 ((((rd_T30 g d).f1).length : Int) - 1))).bind fun j => (if j = true then (Fk.l0 k x1 g m (wrap64 (d + 1))) else (some false))) else (none)) else (some false))) else (none)) else (none)) else (some true)
end
def Fk.f (k : Nat) (l0 : List (S30)) (l1 : List Int) : Option (Bool) := if (l0.length : Int) > 20 then (Fk.j0 k l0 l1 true) else (Fk.j0 k l0 l1 ((l1.length : Int) != (l0.length : Int)))
def Fk.T6 : Bool × List (List Nat × List Nat) := (true,[([],[]),([0],[0]),([1],[1]),([2,1],[2]),([3],[3]),([3],[3]),([4,5,3],[3,4,5]),([6,3],[3,6]),([3],[3]),([8,3],[3,8]),([9,3],[3,9]),([10,3],[3,10]),([7,11,3,3],[3,7,11]),([12,3],[3,12]),([3,13],[3,13])])
def Fk.B6 : List Nat := [0,1,3,7,15,15,63,127,15,271,783,1807,4095,8191,16383]
theorem Fk.tab6 : rtab .any (opsOf Tryz.f107 6) = Fk.T6 := by kernel_rfl
theorem Fk.bits6 : Ecc Fk.T6.2 Fk.B6 = true := by kernel_rfl
theorem Fk.calls (k : Nat) (A0 : Option Addr) (c0 : Nat) (l0 : List (S30)) (A1 : Option Addr) (c1 : Nat) (l1 : List Int) (r : Bool) (w : World) (ax : Kd.C k30 w A0 l0.length l0) (ay : l0.length <= c0) (az : Kd.C (Kd.int .i64) w A1 l1.length l1) (aA : l1.length <= c1) (h : Fk.f k l0 l1 = some r) :
  Calls Tryz.prog 107 #[.slice A0 l0.length c0,.slice A1 l1.length c1] w fun e w' => e = .returned (.bool r) ∧ Below w.heap.size w w' := by
 have aH := Tryz.underlying30;have au := ZA ax;have aR := ZA ay;clear ax ay;have aB := ZA az;have aS := ZA aA;clear az aA;have HB := ZA (Below.refl w.heap.size w);have H := h;clear h;unfold Fk.f at H;have av := ZA H;clear H;go_enter Tryz.func107,Tryz.ntmps107
 go_upto_region 1 with (fail)
 go_cut [16] (fun aI wc => ∃ (kq : Nat) (I : Bool),aI = .bool I ∧ Aside0 (Fk.j0 kq l0 l1 I = some r) ∧ Aside0 (kq <= k) ∧ Aside0 (Below w.heap.size w wc))
 case first =>
  have H := av.out;clear av;by_cases c4 : (l0.length : Int) > 20
  ·rw [if_pos c4] at H;have J := decide_eq_true c4;have ab : decide (20 < l0.length) = true := decide_eq_true (by omega);clear c4
   (first|rw [J]|rw [ab]|(simp only [Eay,Eba];rw [J])|skip)
   have H' := ZA H;clear H;go_wp2;go_meet
   case rel => exact ⟨_,(true),ZG,H',⟨YO⟩,⟨ZQ HB⟩⟩
  rw [if_neg c4] at H;have J := decide_eq_false c4;have ab : decide (20 < l0.length) = false := decide_eq_false (by omega);clear c4
  (first|rw [J]|rw [ab]|(simp only [Eay,Eba];rw [J])|skip)
  have H' := ZA H;clear H;go_wp2;go_meet
  case rel => exact ⟨_,(((l1.length : Int) != (l0.length : Int))),ZG,H',⟨YO⟩,⟨ZQ HB⟩⟩
 case rest =>
  clear av;obtain ⟨kq,I,rfl,HA,aC,HB⟩ := hcut;cases kq with
  | zero => exact absurd HA.out (by simp [Fk.j0])
  | succ aD =>
   have H := HA.out;clear HA;simp only [Fk.j0] at H;by_cases c5 : I = true
   ·subst c5;rw [if_pos rfl] at H;obtain rfl := Option.some.inj H;go_wp2;go_ret;exact ⟨YR,ZQ HB⟩
   replace c5 := Bool.eq_false_iff.mpr c5;subst c5;rw [if_neg (show ¬ (false = true) by decide)] at H;have H' := ZA H;clear H;go_wp2
   go_loopg [19] aD (fun kq aJ w' => ∃ (d : Int),aJ = .int .i64 d ∧ Aside0 (Fk.l0 kq l1 l0 (l0.length : Int) d = some r) ∧ Aside0 (kq <= aD) ∧ Aside0 (Below w.heap.size w w'))
   case atStart => exact ⟨(0),ZG,H',⟨Nat.le_refl _⟩,⟨ZQ HB⟩⟩
   case round =>
    clear H';obtain ⟨d,rfl,HA,aE,HB⟩ := hrel;cases gk with
    | zero => exact absurd HA.out (by simp [Fk.l0])
    | succ k2 =>
     have H := HA.out;clear HA;simp only [Fk.l0] at H;replace H := YI H;rcases H with ⟨aw,H⟩|⟨aw,H⟩;rotate_left
     ·obtain rfl := Option.some.inj H;go_wp2;go_ret;exact ⟨YR,ZQ HB⟩
     replace H := YN H;obtain ⟨aK,H⟩ := H;replace H := YN H;obtain ⟨aL,H⟩ := H;replace H := YJ H;obtain ⟨aM,A9,H⟩ := H;replace H := YF H;rcases H with ⟨rfl,H⟩|⟨rfl,H⟩;rotate_left
     ·obtain rfl := Option.some.inj H;have z : 0 <= (d : Int) := ZD;have D : d < (l0.length : Int) := ZD;obtain ⟨Y,j,m,M,p,q,s,t⟩ := at_T30 au.out d z D;cases M;replace p := ZX HB p;replace q := ZX HB q;have v := ZA t;have y := ZA s;clear t s;replace z := eq_true z;replace D := eq_true D
      try go_wp2_with (first|((with_reducible refine Ead (N := 6) rfl ?_);(try (refine Eau (by rfl) ?_;dsimp only));refine ZE 6 #[.int .i64 0,.slice none 0 0] 30 ?_;intro i hg ad hbox hb;have g := ZA (hbox);have Z := YQ hg HB;have aa := YQ hg HB;replace HB := BS HB hb;clear hb hbox hg;have ag : ad.cell? ⟨i,0,none⟩ = some (.int .i64 0) := ZC g 0 rfl;have ah : ad.cell? ⟨i,1,none⟩ = some (.slice none 0 0) := ZC g 1 rfl;have ai := Ea g.out 0;have aj := Ea g.out 1))
      have U : Aside0 (((ad.setCell ⟨i,0,none⟩ (.int .i64 ((rd_T30 l0 d).f0))).setCell ⟨i,1,none⟩ (.slice j ((rd_T30 l0 d).f1).length m)).heap[i]? = some (.cells #[.int .i64 ((rd_T30 l0 d).f0),.slice j ((rd_T30 l0 d).f1).length m] 30 (0,0))) := ⟨by refine ZY ?_;refine Eae (cs := #[.int .i64 ((rd_T30 l0 d).f0),.slice none 0 0]) ?_ 1 _ rfl;refine ZY ?_;refine Eae (cs := #[.int .i64 0,.slice none 0 0]) ?_ 0 _ rfl;refine ZY ?_;exact g.out⟩;have V : Aside0 (Below w.heap.size w ((ad.setCell ⟨i,0,none⟩ (.int .i64 ((rd_T30 l0 d).f0))).setCell ⟨i,1,none⟩ (.slice j ((rd_T30 l0 d).f1).length m))) := ⟨ZQ HB⟩;generalize ((ad.setCell ⟨i,0,none⟩ (.int .i64 ((rd_T30 l0 d).f0))).setCell ⟨i,1,none⟩ (.slice j ((rd_T30 l0 d).f1).length m)) = aN at U V ⊢;have g := U;have HB := V;clear U V;replace g := ZA (Ear g.out);replace HB := ZA (Eaf HB.out);refine Ebe (n := 15) (S := fun w' => w'.cell? ⟨i,0,none⟩ = some (.int .i64 ((rd_T30 l0 d).f0)) ∧ w'.cell? ⟨i,1,none⟩ = some (.slice j ((rd_T30 l0 d).f1).length m)) (ds := []) (ZL 15 0) (by kernel_rfl) rfl rfl ⟨ZC g 0 rfl,ZC g 1 rfl⟩ (fun hHeld => ?_);refine Eat Fk.tab6 Fk.bits6 (fun HT_ HW_ => ?_);generalize aN.drew = aT at g HB hHeld ⊢;refine YT 0 24 (ZL 15 1) rfl rfl HT_ HW_ hHeld ?_;refine ZO 1 25 (ZL 15 3) rfl rfl HT_ fun K hK => ?_
      refine YS Tryz.func79 #[.agg #[.int .i64 ((rd_T30 l0 d).f0),.slice j ((rd_T30 l0 d).f1).length m]] ?_
      with_reducible refine (FI.calls k2 ((rd_T30 l0 d).f0) _ _ ((rd_T30 l0 d).f1) false _ (ZR (Kd.Eab v.out HB.out)) y.out A9.out).mono ?_
      rintro e aU ⟨rfl,hb⟩;refine ⟨_,rfl,?_⟩;replace g := ZA (Eac (ZH g) hb);replace HB := BS HB hb;refine hK.out _ _ ⟨ZC g 0 rfl,ZC g 1 rfl⟩ (fun hHeld => ?_);clear hK K;refine YZ (some 25) ?_;refine YP 2 26 (ZL 15 7) rfl rfl HT_ ?_;refine YP 3 27 (ZL 15 15) rfl rfl HT_ ?_;refine YU 4 28 (ZL 15 31) rfl rfl HT_ ?_;refine YU 5 29 (ZL 15 63) rfl rfl HT_ ?_;refine YU 6 30 (ZL 15 127) rfl rfl HT_ ?_;refine YU 7 31 (ZL 15 255) rfl rfl HT_ ?_;refine YU 8 32 (ZL 15 511) rfl rfl HT_ ?_;refine YU 9 33 (ZL 15 1023) rfl rfl HT_ ?_;refine YU 10 34 (ZL 15 2047) rfl rfl HT_ ?_;refine YU 11 35 (ZL 15 4095) rfl rfl HT_ ?_;refine YU 12 36 (ZL 15 8191) rfl rfl HT_ ?_;refine YU 13 37 (ZL 15 16383) rfl rfl HT_ ?_;refine YP 14 38 (ZL 15 32767) rfl rfl HT_ ?_;refine Ecb (Eb HT_.out (by kernel_rfl)) ?_
      try go_wp2
      go_ret;exact ⟨YR,ZQ HB⟩
     replace H := YN H;obtain ⟨aF,H⟩ := H;replace H := YJ H;obtain ⟨aO,aG,H⟩ := H;replace H := YF H;rcases H with ⟨rfl,H⟩|⟨rfl,H⟩;rotate_left
     ·obtain rfl := Option.some.inj H;have z : 0 <= (d : Int) := ZD;have D : d < (l0.length : Int) := ZD;obtain ⟨Y,j,m,M,p,q,s,t⟩ := at_T30 au.out d z D;cases M;replace p := ZX HB p;replace q := ZX HB q;have v := ZA t;have y := ZA s;clear t s;replace z := eq_true z;replace D := eq_true D
      try go_wp2_with (first|((with_reducible refine Ead (N := 6) rfl ?_);(try (refine Eau (by rfl) ?_;dsimp only));refine ZE 6 #[.int .i64 0,.slice none 0 0] 30 ?_;intro i hg ae hbox hb;have g := ZA (hbox);have Z := YQ hg HB;have aa := YQ hg HB;replace HB := BS HB hb;clear hb hbox hg;have ak : ae.cell? ⟨i,0,none⟩ = some (.int .i64 0) := ZC g 0 rfl;have al : ae.cell? ⟨i,1,none⟩ = some (.slice none 0 0) := ZC g 1 rfl;have am := Ea g.out 0;have an := Ea g.out 1))
      have U : Aside0 (((ae.setCell ⟨i,0,none⟩ (.int .i64 ((rd_T30 l0 d).f0))).setCell ⟨i,1,none⟩ (.slice j ((rd_T30 l0 d).f1).length m)).heap[i]? = some (.cells #[.int .i64 ((rd_T30 l0 d).f0),.slice j ((rd_T30 l0 d).f1).length m] 30 (0,0))) := ⟨by refine ZY ?_;refine Eae (cs := #[.int .i64 ((rd_T30 l0 d).f0),.slice none 0 0]) ?_ 1 _ rfl;refine ZY ?_;refine Eae (cs := #[.int .i64 0,.slice none 0 0]) ?_ 0 _ rfl;refine ZY ?_;exact g.out⟩;have V : Aside0 (Below w.heap.size w ((ae.setCell ⟨i,0,none⟩ (.int .i64 ((rd_T30 l0 d).f0))).setCell ⟨i,1,none⟩ (.slice j ((rd_T30 l0 d).f1).length m))) := ⟨ZQ HB⟩;generalize ((ae.setCell ⟨i,0,none⟩ (.int .i64 ((rd_T30 l0 d).f0))).setCell ⟨i,1,none⟩ (.slice j ((rd_T30 l0 d).f1).length m)) = aP at U V ⊢;have g := U;have HB := V;clear U V;replace g := ZA (Ear g.out);replace HB := ZA (Eaf HB.out);have E : 0 <= (d : Int) := ZD;have G : d < (l1.length : Int) := ZD;obtain ⟨X,ac,o⟩ := Kd.Ean aB.out d E G;have u := o;cases ac;replace o := ZX HB o;replace E := eq_true E;replace G := eq_true G;refine Ebe (n := 15) (S := fun w' => w'.cell? ⟨i,0,none⟩ = some (.int .i64 ((rd_T30 l0 d).f0)) ∧ w'.cell? ⟨i,1,none⟩ = some (.slice j ((rd_T30 l0 d).f1).length m) ∧ w'.cell? (X.add (d).toNat) = some (.int .i64 (rd l1 d))) (ds := []) (ZL 15 0) (by kernel_rfl) rfl rfl ⟨ZC g 0 rfl,ZC g 1 rfl,(ZX HB u)⟩ (fun hHeld => ?_);refine Eat Fk.tab6 Fk.bits6 (fun HT_ HW_ => ?_);generalize aP.drew = aV at g HB o hHeld ⊢;refine YT 0 24 (ZL 15 1) rfl rfl HT_ HW_ hHeld ?_;refine ZO 1 25 (ZL 15 3) rfl rfl HT_ fun K hK => ?_
      refine YS Tryz.func79 #[.agg #[.int .i64 ((rd_T30 l0 d).f0),.slice j ((rd_T30 l0 d).f1).length m]] ?_
      with_reducible refine (FI.calls k2 ((rd_T30 l0 d).f0) _ _ ((rd_T30 l0 d).f1) true _ (ZR (Kd.Eab v.out HB.out)) y.out A9.out).mono ?_
      rintro e aW ⟨rfl,hb⟩;refine ⟨_,rfl,?_⟩;replace g := ZA (Eac (ZH g) hb);replace HB := BS HB hb;refine hK.out _ _ ⟨ZC g 0 rfl,ZC g 1 rfl,(ZX HB u)⟩ (fun hHeld => ?_);clear hK K;refine YZ (some 25) ?_;refine YP 2 26 (ZL 15 7) rfl rfl HT_ ?_;refine YP 3 27 (ZL 15 15) rfl rfl HT_ ?_;refine YP 4 28 (ZL 15 31) rfl rfl HT_ ?_;refine YP 5 29 (ZL 15 63) rfl rfl HT_ ?_;refine YP 6 30 (ZL 15 127) rfl rfl HT_ ?_;refine YP 8 32 (ZL 15 383) rfl rfl HT_ ?_;refine YT 7 31 (ZL 15 511) rfl rfl HT_ HW_ hHeld ?_;refine YT 9 33 (ZL 15 1023) rfl rfl HT_ HW_ hHeld ?_;refine YP 10 34 (ZL 15 2047) rfl rfl HT_ ?_;refine YP 11 35 (ZL 15 4095) rfl rfl HT_ ?_;refine ZO 12 36 (ZL 15 8191) rfl rfl HT_ fun K hK => ?_
      refine YS Tryz.func65 #[.int .i64 (rd l1 d),.int .i64 (-1),.int .i64 (wrap64 ((((rd_T30 l0 d).f1).length : Int) - 1))] ?_
      with_reducible refine (FU.calls (rd l1 d) (-1) (wrap64 ((((rd_T30 l0 d).f1).length : Int) - 1)) false _ aG.out).mono ?_
      rintro e w' ⟨rfl,⟨nd,rfl⟩⟩;refine ⟨_,rfl,?_⟩;refine hK.out _ _ ⟨ZC g 0 rfl,ZC g 1 rfl,(ZX HB u)⟩ (fun hHeld => ?_);clear hK K;refine YZ (some 36) ?_;refine YP 13 37 (ZL 15 16383) rfl rfl HT_ ?_;refine YP 14 38 (ZL 15 32767) rfl rfl HT_ ?_;refine Ecb (Eb HT_.out (by kernel_rfl)) ?_
      try go_wp2
      go_ret;exact ⟨YR,ZQ HB⟩
     have H' := ZA H;clear H;have z : 0 <= (d : Int) := ZD;have D : d < (l0.length : Int) := ZD;obtain ⟨Y,j,m,M,p,q,s,t⟩ := at_T30 au.out d z D;cases M;replace p := ZX HB p;replace q := ZX HB q;have v := ZA t;have y := ZA s;clear t s;replace z := eq_true z;replace D := eq_true D
     try go_wp2_with (first|((with_reducible refine Ead (N := 6) rfl ?_);(try (refine Eau (by rfl) ?_;dsimp only));refine ZE 6 #[.int .i64 0,.slice none 0 0] 30 ?_;intro i hg af hbox hb;have g := ZA (hbox);have Z := YQ hg HB;have aa := YQ hg HB;replace HB := BS HB hb;clear hb hbox hg;have ao : af.cell? ⟨i,0,none⟩ = some (.int .i64 0) := ZC g 0 rfl;have ap : af.cell? ⟨i,1,none⟩ = some (.slice none 0 0) := ZC g 1 rfl;have aq := Ea g.out 0;have ar := Ea g.out 1))
     have U : Aside0 (((af.setCell ⟨i,0,none⟩ (.int .i64 ((rd_T30 l0 d).f0))).setCell ⟨i,1,none⟩ (.slice j ((rd_T30 l0 d).f1).length m)).heap[i]? = some (.cells #[.int .i64 ((rd_T30 l0 d).f0),.slice j ((rd_T30 l0 d).f1).length m] 30 (0,0))) := ⟨by refine ZY ?_;refine Eae (cs := #[.int .i64 ((rd_T30 l0 d).f0),.slice none 0 0]) ?_ 1 _ rfl;refine ZY ?_;refine Eae (cs := #[.int .i64 0,.slice none 0 0]) ?_ 0 _ rfl;refine ZY ?_;exact g.out⟩;have V : Aside0 (Below w.heap.size w ((af.setCell ⟨i,0,none⟩ (.int .i64 ((rd_T30 l0 d).f0))).setCell ⟨i,1,none⟩ (.slice j ((rd_T30 l0 d).f1).length m))) := ⟨ZQ HB⟩;generalize ((af.setCell ⟨i,0,none⟩ (.int .i64 ((rd_T30 l0 d).f0))).setCell ⟨i,1,none⟩ (.slice j ((rd_T30 l0 d).f1).length m)) = aQ at U V ⊢;have g := U;have HB := V;clear U V;replace g := ZA (Ear g.out);replace HB := ZA (Eaf HB.out);have E : 0 <= (d : Int) := ZD;have G : d < (l1.length : Int) := ZD;obtain ⟨X,ac,o⟩ := Kd.Ean aB.out d E G;have u := o;cases ac;replace o := ZX HB o;replace E := eq_true E;replace G := eq_true G;refine Ebe (n := 15) (S := fun w' => w'.cell? ⟨i,0,none⟩ = some (.int .i64 ((rd_T30 l0 d).f0)) ∧ w'.cell? ⟨i,1,none⟩ = some (.slice j ((rd_T30 l0 d).f1).length m) ∧ w'.cell? (X.add (d).toNat) = some (.int .i64 (rd l1 d))) (ds := []) (ZL 15 0) (by kernel_rfl) rfl rfl ⟨ZC g 0 rfl,ZC g 1 rfl,(ZX HB u)⟩ (fun hHeld => ?_);refine Eat Fk.tab6 Fk.bits6 (fun HT_ HW_ => ?_);generalize aQ.drew = aX at g HB o hHeld ⊢;refine YT 0 24 (ZL 15 1) rfl rfl HT_ HW_ hHeld ?_;refine ZO 1 25 (ZL 15 3) rfl rfl HT_ fun K hK => ?_
     refine YS Tryz.func79 #[.agg #[.int .i64 ((rd_T30 l0 d).f0),.slice j ((rd_T30 l0 d).f1).length m]] ?_
     with_reducible refine (FI.calls k2 ((rd_T30 l0 d).f0) _ _ ((rd_T30 l0 d).f1) true _ (ZR (Kd.Eab v.out HB.out)) y.out A9.out).mono ?_
     rintro e aY ⟨rfl,hb⟩;refine ⟨_,rfl,?_⟩;replace g := ZA (Eac (ZH g) hb);replace HB := BS HB hb;refine hK.out _ _ ⟨ZC g 0 rfl,ZC g 1 rfl,(ZX HB u)⟩ (fun hHeld => ?_);clear hK K;refine YZ (some 25) ?_;refine YP 2 26 (ZL 15 7) rfl rfl HT_ ?_;refine YP 3 27 (ZL 15 15) rfl rfl HT_ ?_;refine YP 4 28 (ZL 15 31) rfl rfl HT_ ?_;refine YP 5 29 (ZL 15 63) rfl rfl HT_ ?_;refine YP 6 30 (ZL 15 127) rfl rfl HT_ ?_;refine YP 8 32 (ZL 15 383) rfl rfl HT_ ?_;refine YT 7 31 (ZL 15 511) rfl rfl HT_ HW_ hHeld ?_;refine YT 9 33 (ZL 15 1023) rfl rfl HT_ HW_ hHeld ?_;refine YP 10 34 (ZL 15 2047) rfl rfl HT_ ?_;refine YP 11 35 (ZL 15 4095) rfl rfl HT_ ?_;refine ZO 12 36 (ZL 15 8191) rfl rfl HT_ fun K hK => ?_
     refine YS Tryz.func65 #[.int .i64 (rd l1 d),.int .i64 (-1),.int .i64 (wrap64 ((((rd_T30 l0 d).f1).length : Int) - 1))] ?_
     with_reducible refine (FU.calls (rd l1 d) (-1) (wrap64 ((((rd_T30 l0 d).f1).length : Int) - 1)) true _ aG.out).mono ?_
     rintro e w' ⟨rfl,⟨nd,rfl⟩⟩;refine ⟨_,rfl,?_⟩;refine hK.out _ _ ⟨ZC g 0 rfl,ZC g 1 rfl,(ZX HB u)⟩ (fun hHeld => ?_);clear hK K;refine YZ (some 36) ?_;refine YP 13 37 (ZL 15 16383) rfl rfl HT_ ?_;refine YP 14 38 (ZL 15 32767) rfl rfl HT_ ?_;refine Ecb (Eb HT_.out (by kernel_rfl)) ?_
     try go_wp2
     go_roundg k2
     case measure => have := aC.out;have := aE.out;omega
     case rel => exact ⟨(wrap64 (d + 1)),ZG,H',⟨by have := aC.out;have := aE.out;omega⟩,⟨ZQ HB⟩⟩
def FX.l0 : Nat -> List Int -> Int -> Int -> List (S30) -> Int -> Int -> Option (Int × Int)
 | 0,_,_,_,_,_,_ => none
 | k + 1,x1,x6,x7,g,i,d => if d < i then (if 0 <= d then (if d < (g.length : Int) then (if d < (x1.length : Int) then (if (rd x1 d) = (-1) then (FX.l0 k x1 x6 x7 g i (wrap64 (d + 1))) else ((Fv.f k ((rd_T30 g d).f0) ((rd_T30 g d).f1)).bind fun j => (if (rd x1 d) = j then (FX.l0 k x1 (wrap64 (x6 + 1)) x7 g i (wrap64 (d + 1))) else (FX.l0 k x1 x6 (wrap64 (x7 + 1)) g i (wrap64 (d + 1)))))) else (none)) else (none)) else (none)) else (some (x6,x7))
def FX.f (k : Nat) (l0 : List (S30)) (l1 : List Int) : Option (Int × Int) := FX.l0 k l1 0 0 l0 (l0.length : Int) 0
theorem FX.calls (k : Nat) (A0 : Option Addr) (c0 : Nat) (l0 : List (S30)) (A1 : Option Addr) (c1 : Nat) (l1 : List Int) (r1 : Int) (r2 : Int) (w : World) (aB : Kd.C k30 w A0 l0.length l0) (aC : l0.length <= c0) (aD : Kd.C (Kd.int .i64) w A1 l1.length l1) (aE : l1.length <= c1) (h : FX.f k l0 l1 = some (r1,r2)) :
  Calls Tryz.prog 108 #[.slice A0 l0.length c0,.slice A1 l1.length c1] w fun e w' => e = .returned (.tuple #[.int .i64 r1,.int .i64 r2]) ∧ Below w.heap.size w w' := by
 have aI := Tryz.underlying30;have aq := ZA aB;have aN := ZA aC;clear aB aC;have ar := ZA aD;have aO := ZA aE;clear aD aE;have HB := ZA (Below.refl w.heap.size w);have H : (FX.l0 k l1 0 0 l0 (l0.length : Int) 0) = some (r1,r2) := h;clear h;have H' := ZA H;clear H;go_enter Tryz.func108,Tryz.ntmps108;go_wp2
 go_loopg [6,7,12] k (fun kq v6 v7 aJ w' => ∃ (Y : Int) (Z : Int) (d : Int),v6 = .int .i64 Y ∧ v7 = .int .i64 Z ∧ aJ = .int .i64 d ∧ Aside0 (FX.l0 kq l1 Y Z l0 (l0.length : Int) d = some (r1,r2)) ∧ Aside0 (kq <= k) ∧ Aside0 (Below w.heap.size w w'))
 case atStart => exact ⟨(0),(0),(0),ZG,ZG,ZG,H',⟨Nat.le_refl _⟩,⟨ZQ HB⟩⟩
 case round =>
  clear H';obtain ⟨Y,Z,d,rfl,rfl,rfl,HA,af,HB⟩ := hrel;cases gk with
  | zero => exact absurd HA.out (by simp [FX.l0])
  | succ k1 =>
   have H := HA.out;clear HA;simp only [FX.l0] at H;replace H := YI H;rcases H with ⟨au,H⟩|⟨au,H⟩;rotate_left
   ·simp only [Option.some.injEq,Prod.mk.injEq] at H;obtain ⟨rfl,rfl⟩ := H;go_wp2;go_ret2;exact ⟨YR,ZQ HB⟩
   replace H := YN H;obtain ⟨aK,H⟩ := H;replace H := YN H;obtain ⟨aL,H⟩ := H;replace H := YN H;obtain ⟨aM,H⟩ := H;by_cases c7 : (rd l1 d) = (-1)
   ·rw [if_pos c7] at H;have av : ((rd l1 d) == (-1)) = true := beq_iff_eq.mpr c7;have aw : ((rd l1 d) != (-1)) = false := bne_eq_false_iff_eq.mpr c7;clear c7;have H' := ZA H;clear H;have J : 0 <= (d : Int) := ZD;have M : d < (l0.length : Int) := ZD;obtain ⟨ac,y,z,aa,n,q,s,t⟩ := at_T30 aq.out d J M;cases aa;replace n := ZX HB n;replace q := ZX HB q;have G := ZA t;have I := ZA s;clear t s;replace J := eq_true J;replace M := eq_true M
    go_wp2_with (first|((with_reducible refine Ead (N := 9) rfl ?_);refine ZE 9 #[.int .i64 0,.slice none 0 0] 30 ?_;intro j hg w8 hbox hb;have m := ZA (hbox);have D := YQ hg HB;have ad := YQ hg HB;replace HB := BS HB hb;clear hb hbox hg;have ax : w8.cell? ⟨j,0,none⟩ = some (.int .i64 0) := ZC m 0 rfl;have ay : w8.cell? ⟨j,1,none⟩ = some (.slice none 0 0) := ZC m 1 rfl;have az := Ea m.out 0;have aA := Ea m.out 1;have U : 0 <= (d : Int) := ZD;have V : d < (l1.length : Int) := ZD;obtain ⟨E,ab,i⟩ := Kd.Ean ar.out d U V;cases ab;have u : E.block ≠ j := Nat.ne_of_lt (Nat.lt_of_lt_of_le (by have := World.block_lt_of_cell? _ _ i;first|rwa [add_block] at this|exact this) D.out);have v : E.block ≠ j := Nat.ne_of_lt (Nat.lt_of_lt_of_le (by have := World.block_lt_of_cell? _ _ i;first|rwa [add_block] at this|exact this) D.out);replace i := ZX HB i;replace i := (cell_far (p := ⟨j,0,none⟩) (YA (u)) (.int .i64 ((rd_T30 l0 d).f0))).trans i;replace i := (cell_far (p := ⟨j,1,none⟩) (YA (v)) (.slice y ((rd_T30 l0 d).f1).length z)).trans i;clear u;clear v;replace U := eq_true U;replace V := eq_true V))
    go_roundg k1
    case measure => have := af.out;omega
    case rel => exact ⟨(Y),(Z),(wrap64 (d + 1)),ZG,ZG,ZG,H',⟨by have := af.out;omega⟩,⟨ZQ HB⟩⟩
   rw [if_neg c7] at H;have av : ((rd l1 d) == (-1)) = false := beq_eq_false_iff_ne.mpr c7;have aw : ((rd l1 d) != (-1)) = true := bne_iff_ne.mpr c7;replace H := YJ H;obtain ⟨X,aF,H⟩ := H;by_cases ae : (rd l1 d) = X;rotate_left
   ·rw [if_neg ae] at H;have ag : ((rd l1 d) == X) = false := beq_eq_false_iff_ne.mpr ae;have ah : ((rd l1 d) != X) = true := bne_iff_ne.mpr ae;have H' := ZA H;clear H;have J : 0 <= (d : Int) := ZD;have M : d < (l0.length : Int) := ZD;obtain ⟨ac,y,z,aa,n,q,s,t⟩ := at_T30 aq.out d J M;cases aa;replace n := ZX HB n;replace q := ZX HB q;have G := ZA t;have I := ZA s;clear t s;replace J := eq_true J;replace M := eq_true M
    go_wp2_with (first|((with_reducible refine Ead (N := 9) rfl ?_);refine ZE 9 #[.int .i64 0,.slice none 0 0] 30 ?_;intro j hg aG hbox hb;have m := ZA (hbox);have D := YQ hg HB;have ad := YQ hg HB;replace HB := BS HB hb;clear hb hbox hg;have ai : aG.cell? ⟨j,0,none⟩ = some (.int .i64 0) := ZC m 0 rfl;have aj : aG.cell? ⟨j,1,none⟩ = some (.slice none 0 0) := ZC m 1 rfl;have ak := Ea m.out 0;have al := Ea m.out 1;have U : 0 <= (d : Int) := ZD;have V : d < (l1.length : Int) := ZD;obtain ⟨E,ab,i⟩ := Kd.Ean ar.out d U V;cases ab;have u : E.block ≠ j := Nat.ne_of_lt (Nat.lt_of_lt_of_le (by have := World.block_lt_of_cell? _ _ i;first|rwa [add_block] at this|exact this) D.out);have v : E.block ≠ j := Nat.ne_of_lt (Nat.lt_of_lt_of_le (by have := World.block_lt_of_cell? _ _ i;first|rwa [add_block] at this|exact this) D.out);replace i := ZX HB i;replace i := (cell_far (p := ⟨j,0,none⟩) (YA (u)) (.int .i64 ((rd_T30 l0 d).f0))).trans i;replace i := (cell_far (p := ⟨j,1,none⟩) (YA (v)) (.slice y ((rd_T30 l0 d).f1).length z)).trans i;clear u;clear v;replace U := eq_true U;replace V := eq_true V)|((with_reducible refine Eaz (f := 109) rfl ?_);refine Ed (some 27) rfl rfl Tryz.func109 (by kernel_rfl) rfl #[.agg #[.int .i64 ((rd_T30 l0 d).f0),.slice y ((rd_T30 l0 d).f1).length z]] rfl (by (try simp only [List.map_toArray,List.map_cons,List.map_nil]);first|done|rfl|(simp only [List.length_drop,List.length_take];rfl)) ?_;(with_reducible refine (Fv.calls k1 ((rd_T30 l0 d).f0) _ _ ((rd_T30 l0 d).f1) X _ (Kd.Eab G.out (ZQ HB)) I.out aF.out).mono ?_);rintro e aP ⟨rfl,hb⟩;refine ⟨_,rfl,?_⟩;replace m := ZA (Eac (g := j) (o := .cells #[.int .i64 ((rd_T30 l0 d).f0),.slice y ((rd_T30 l0 d).f1).length z] 30 (0,0)) (by refine ZY ?_;refine Eae (cs := #[.int .i64 ((rd_T30 l0 d).f0),.slice none 0 0]) ?_ 1 _ rfl;refine ZY ?_;refine Eae (cs := #[.int .i64 0,.slice none 0 0]) ?_ 0 _ rfl;refine ZY ?_;exact m.out) hb);replace HB := BS HB hb))
    go_roundg k1
    case measure => have := af.out;omega
    case rel => exact ⟨(Y),(wrap64 (Z + 1)),(wrap64 (d + 1)),ZG,ZG,ZG,H',⟨by have := af.out;omega⟩,⟨ZQ HB⟩⟩
   rw [if_pos ae] at H;have ag : ((rd l1 d) == X) = true := beq_iff_eq.mpr ae;have ah : ((rd l1 d) != X) = false := bne_eq_false_iff_eq.mpr ae;clear ae;have H' := ZA H;clear H;have J : 0 <= (d : Int) := ZD;have M : d < (l0.length : Int) := ZD;obtain ⟨ac,y,z,aa,n,q,s,t⟩ := at_T30 aq.out d J M;cases aa;replace n := ZX HB n;replace q := ZX HB q;have G := ZA t;have I := ZA s;clear t s;replace J := eq_true J;replace M := eq_true M
   go_wp2_with (first|((with_reducible refine Ead (N := 9) rfl ?_);refine ZE 9 #[.int .i64 0,.slice none 0 0] 30 ?_;intro j hg aH hbox hb;have m := ZA (hbox);have D := YQ hg HB;have ad := YQ hg HB;replace HB := BS HB hb;clear hb hbox hg;have am : aH.cell? ⟨j,0,none⟩ = some (.int .i64 0) := ZC m 0 rfl;have an : aH.cell? ⟨j,1,none⟩ = some (.slice none 0 0) := ZC m 1 rfl;have ao := Ea m.out 0;have ap := Ea m.out 1;have U : 0 <= (d : Int) := ZD;have V : d < (l1.length : Int) := ZD;obtain ⟨E,ab,i⟩ := Kd.Ean ar.out d U V;cases ab;have u : E.block ≠ j := Nat.ne_of_lt (Nat.lt_of_lt_of_le (by have := World.block_lt_of_cell? _ _ i;first|rwa [add_block] at this|exact this) D.out);have v : E.block ≠ j := Nat.ne_of_lt (Nat.lt_of_lt_of_le (by have := World.block_lt_of_cell? _ _ i;first|rwa [add_block] at this|exact this) D.out);replace i := ZX HB i;replace i := (cell_far (p := ⟨j,0,none⟩) (YA (u)) (.int .i64 ((rd_T30 l0 d).f0))).trans i;replace i := (cell_far (p := ⟨j,1,none⟩) (YA (v)) (.slice y ((rd_T30 l0 d).f1).length z)).trans i;clear u;clear v;replace U := eq_true U;replace V := eq_true V)|((with_reducible refine Eaz (f := 109) rfl ?_);refine Ed (some 27) rfl rfl Tryz.func109 (by kernel_rfl) rfl #[.agg #[.int .i64 ((rd_T30 l0 d).f0),.slice y ((rd_T30 l0 d).f1).length z]] rfl (by (try simp only [List.map_toArray,List.map_cons,List.map_nil]);first|done|rfl|(simp only [List.length_drop,List.length_take];rfl)) ?_;(with_reducible refine (Fv.calls k1 ((rd_T30 l0 d).f0) _ _ ((rd_T30 l0 d).f1) X _ (Kd.Eab G.out (ZQ HB)) I.out aF.out).mono ?_);rintro e aQ ⟨rfl,hb⟩;refine ⟨_,rfl,?_⟩;replace m := ZA (Eac (g := j) (o := .cells #[.int .i64 ((rd_T30 l0 d).f0),.slice y ((rd_T30 l0 d).f1).length z] 30 (0,0)) (by refine ZY ?_;refine Eae (cs := #[.int .i64 ((rd_T30 l0 d).f0),.slice none 0 0]) ?_ 1 _ rfl;refine ZY ?_;refine Eae (cs := #[.int .i64 0,.slice none 0 0]) ?_ 0 _ rfl;refine ZY ?_;exact m.out) hb);replace HB := BS HB hb))
   go_roundg k1
   case measure => have := af.out;omega
   case rel => exact ⟨(wrap64 (Y + 1)),(Z),(wrap64 (d + 1)),ZG,ZG,ZG,H',⟨by have := af.out;omega⟩,⟨ZQ HB⟩⟩
def Lh.f (k : Nat) (l0 : List (S30)) (l1 : List Int) : Option (Int × Int × Bool) := (Fk.f k l0 l1).bind fun g => (if g = true then ((FX.f k l0 l1).bind fun d => (some (d.1,d.2,true))) else (some (0,0,false)))
theorem Lh.calls (k : Nat) (A0 : Option Addr) (c0 : Nat) (l0 : List (S30)) (A1 : Option Addr) (c1 : Nat) (l1 : List Int) (r1 : Int) (r2 : Int) (r3 : Bool) (w : World) (o : Kd.C k30 w A0 l0.length l0) (p : l0.length <= c0) (q : Kd.C (Kd.int .i64) w A1 l1.length l1) (s : l1.length <= c1) (h : Lh.f k l0 l1 = some (r1,r2,r3)) :
  Calls Tryz.prog 47 #[.slice A0 l0.length c0,.slice A1 l1.length c1] w fun e w' => e = .returned (.tuple #[.int .i64 r1,.int .i64 r2,.bool r3]) ∧ Below w.heap.size w w' := by
 have d := ZA o;have g := ZA p;clear o p;have i := ZA q;have j := ZA s;clear q s;have HB := ZA (Below.refl w.heap.size w);have H := h;clear h;unfold Lh.f at H;replace H := YJ H;obtain ⟨aa,A3,H⟩ := H;replace H := YF H;rcases H with ⟨rfl,H⟩|⟨rfl,H⟩;rotate_left
 ·simp only [Option.some.injEq,Prod.mk.injEq] at H;obtain ⟨rfl,rfl,rfl⟩ := H;go_enter Tryz.func47,Tryz.ntmps47
  go_wp2_with (first|((with_reducible refine YG 107 ?_);refine YC (some 11) Tryz.func107 #[.slice A0 l0.length c0,.slice A1 l1.length c1] (Fk.calls k _ _ l0 _ _ l1 false _ (ZR d.out) g.out (ZR i.out) j.out A3.out) ?_;rintro e w8 ⟨rfl,hb⟩;refine ⟨_,rfl,?_⟩;replace HB := BS HB hb))
  go_ret3
  exact ⟨YR,ZQ HB⟩
 replace H := YJ H;obtain ⟨⟨m,n⟩,A5,H⟩ := H;try dsimp only at H
 simp only [Option.some.injEq,Prod.mk.injEq] at H;obtain ⟨rfl,rfl,rfl⟩ := H;go_enter Tryz.func47,Tryz.ntmps47
 go_wp2_with (first|((with_reducible refine YG 107 ?_);refine YC (some 11) Tryz.func107 #[.slice A0 l0.length c0,.slice A1 l1.length c1] (Fk.calls k _ _ l0 _ _ l1 true _ (ZR d.out) g.out (ZR i.out) j.out A3.out) ?_;rintro e w6 ⟨rfl,hb⟩;refine ⟨_,rfl,?_⟩;replace HB := BS HB hb)|((with_reducible refine YG 108 ?_);refine YC (some 16) Tryz.func108 #[.slice A0 l0.length c0,.slice A1 l1.length c1] (FX.calls k _ _ l0 _ _ l1 m n _ (ZR (Kd.Eab d.out HB.out)) g.out (ZR (Kd.Eab i.out HB.out)) j.out A5.out) ?_;rintro e w7 ⟨rfl,hb⟩;refine ⟨_,rfl,?_⟩;replace HB := BS HB hb))
 go_ret3
 exact ⟨YR,ZQ HB⟩
def FY.l0 : Nat -> List Int -> List Int -> List (S30) -> Int -> Int -> Option (List Int × Bool)
 | 0,_,_,_,_,_ => none
 | k + 1,x1,x6,g,i,d => if d < i then (if 0 <= d then (if d < (g.length : Int) then (if d < (x1.length : Int) then ((FF.f ((rd_T30 g d).f0) ((rd_T30 g d).f1) (rd x1 d)).bind fun j => (if j = true then (FY.l0 k x1 x6 g i (wrap64 (d + 1))) else (if x6.length < 17592186044416 then (FY.l0 k x1 (x6 ++ [(rd_T30 g d).f0]) g i (wrap64 (d + 1))) else (none)))) else (none)) else (none)) else (none)) else ((Fj.f x6).bind fun m => (some (m,true)))
def FY.f (k : Nat) (l0 : List (S30)) (l1 : List Int) : Option (List Int × Bool) := (Fn.f k l0 l1).bind fun d => (if d = true then (FY.l0 k l1 ([] : List Int) l0 (l0.length : Int) 0) else (some (([] : List Int),false)))
theorem FY.calls (k : Nat) (A0 : Option Addr) (c0 : Nat) (l0 : List (S30)) (A1 : Option Addr) (c1 : Nat) (l1 : List Int) (r1 : List Int) (r2 : Bool) (w : World) (aQ : Kd.C k30 w A0 l0.length l0) (aR : l0.length <= c0) (aS : Kd.C (Kd.int .i64) w A1 l1.length l1) (aT : l1.length <= c1) (h : FY.f k l0 l1 = some (r1,r2)) :
  Calls Tryz.prog 48 #[.slice A0 l0.length c0,.slice A1 l1.length c1] w fun e w' => ∃ aU : Value,e = .returned (.tuple #[aU,.bool r2]) ∧ Kd.R (Kd.int .i64) 3 w' w.heap.size (fun _ => True) aU r1 ∧ Below w.heap.size w w' := by
 have a1 := Tryz.underlying30;have ar := ZA aQ;have aV := ZA aR;clear aQ aR;have au := ZA aS;have aW := ZA aT;clear aS aT;have HB := ZA (Below.refl w.heap.size w);have H := h;clear h;unfold FY.f at H;replace H := YJ H;obtain ⟨a2,A3,H⟩ := H;replace H := YF H;rcases H with ⟨rfl,H⟩|⟨rfl,H⟩;rotate_left
 ·simp only [Option.some.injEq,Prod.mk.injEq] at H;obtain ⟨rfl,rfl⟩ := H;go_enter Tryz.func48,Tryz.ntmps48
  go_wp2_with (first|((with_reducible refine YG 105 ?_);refine YC (some 11) Tryz.func105 #[.slice A0 l0.length c0,.slice A1 l1.length c1] (Fn.calls k _ _ l0 _ _ l1 false _ (ZR ar.out) aV.out (ZR au.out) aW.out A3.out) ?_;rintro e bc ⟨rfl,hb⟩;refine ⟨_,rfl,?_⟩;replace HB := BS HB hb))
  go_ret2;exact ⟨_,YR,by first|exact Kd.Edv _ _ _ _ _|exact Kd.Eet _ _ _ _ _|exact Kd.Eef _ _ _ _ _|exact Kd.Eeu _ _ _ _ _|exact Kd.Eep _ _ _ _ _,ZQ HB⟩
 have H' := ZA H;clear H;go_enter Tryz.func48,Tryz.ntmps48
 go_wp2_with (first|((with_reducible refine YG 105 ?_);refine YC (some 11) Tryz.func105 #[.slice A0 l0.length c0,.slice A1 l1.length c1] (Fn.calls k _ _ l0 _ _ l1 true _ (ZR ar.out) aV.out (ZR au.out) aW.out A3.out) ?_;rintro e w5 ⟨rfl,hb⟩;refine ⟨_,rfl,?_⟩;replace HB := BS HB hb))
 go_loopg [6,15] k (fun kq v6 a3 w' => ∃ (I : List Int) (d : Int),a3 = .int .i64 d ∧ Aside0 (FY.l0 kq l1 I l0 (l0.length : Int) d = some (r1,r2)) ∧ Aside0 (kq <= k) ∧ Aside0 (Kd.R (Kd.int .i64) 3 w' w.heap.size (fun _ => True) v6 I) ∧ Aside0 (Below w.heap.size w w'))
 case atStart => exact ⟨(([] : List Int)),(0),ZG,H',⟨Nat.le_refl _⟩,⟨by first|exact Kd.Edv _ _ _ _ _|exact Kd.Eet _ _ _ _ _|exact Kd.Eef _ _ _ _ _|exact Kd.Eeu _ _ _ _ _|exact Kd.Eep _ _ _ _ _⟩,⟨ZQ HB⟩⟩
 case round =>
  clear H';obtain ⟨I,d,rfl,HA,av,t,HB⟩ := hrel;cases gk with
  | zero => exact absurd HA.out (by simp [FY.l0])
  | succ k1 =>
   have H := HA.out;clear HA;simp only [FY.l0] at H;replace H := YI H;rcases H with ⟨aJ,H⟩|⟨aJ,H⟩;rotate_left
   ·replace H := ZI H;obtain ⟨aK,ai,H⟩ := H;have a4 := ZA ai;clear ai;simp only [Option.some.injEq,Prod.mk.injEq] at H;obtain ⟨rfl,rfl⟩ := H;obtain ⟨aM,aN,aO⟩ := Kd.Eaj t.out;subst aO
    go_wp2_with (first|((with_reducible refine YG 100 ?_);refine YC (some 34) Tryz.func100 #[.slice aM I.length aN] (Fj.calls _ _ I aK _ (WR t) (CR t) a4.out) ?_;rintro e bd ⟨a5,rfl,aX,hb⟩;refine ⟨_,rfl,?_⟩;have aj := ZA (Kd.Eas (Kd.R_new' aX (Kd.R_lt (ZK t))) (SZ HB));replace t := ZA (Kd.R_elder' (ZK t) (Kd.Eap aX) hb);replace HB := BS HB hb))
    go_ret2;exact ⟨_,YR,ZK ⟨Kd.Eak aj.out (fun _ hk => trivial)⟩,ZQ HB⟩
   replace H := YN H;obtain ⟨a6,H⟩ := H;replace H := YN H;obtain ⟨a7,H⟩ := H;replace H := YN H;obtain ⟨a8,H⟩ := H;replace H := YJ H;obtain ⟨aP,aY,H⟩ := H;by_cases aw : aP = true
   ·subst aw;rw [if_pos rfl] at H;have H' := ZA H;clear H;have U : 0 <= (d : Int) := ZD;have V : d < (l0.length : Int) := ZD;obtain ⟨ak,q,s,ab,y,z,D,E⟩ := at_T30 ar.out d U V;cases ab;replace y := ZX HB y;replace z := ZX HB z;have J := ZA E;have M := ZA D;clear E D;replace U := eq_true U;replace V := eq_true V
    try go_wp2_with (first|((with_reducible refine Ead (N := 8) rfl ?_);refine ZE 8 #[.int .i64 0,.slice none 0 0] 30 ?_;intro m hg ag hbox hb;replace t := ZBR t hb;have j := ZA (hbox);have al := YQ hg HB;have am := YQ hg HB;replace HB := BS HB hb;clear hb hbox hg;have ax : ag.cell? ⟨m,0,none⟩ = some (.int .i64 0) := ZC j 0 rfl;have ay : ag.cell? ⟨m,1,none⟩ = some (.slice none 0 0) := ZC j 1 rfl;have az := Ea j.out 0;have aA := Ea j.out 1))
    have ac : Aside0 (Kd.R (Kd.int .i64) 3 ((ag.setCell ⟨m,0,none⟩ (.int .i64 ((rd_T30 l0 d).f0))).setCell ⟨m,1,none⟩ (.slice q ((rd_T30 l0 d).f1).length s)) w.heap.size (fun _ => True) u6 I) := ⟨ZK ⟨Kd.Eak (Kd.Ebs (p := ⟨m,1,none⟩) (Kd.Ebs (p := ⟨m,0,none⟩) (Kd.Eaw t.out j.out (by decide)) (fun _ hk => hk.2) (.int .i64 ((rd_T30 l0 d).f0))) (fun _ hk => hk.2) (.slice q ((rd_T30 l0 d).f1).length s)) (fun _ hk => trivial)⟩⟩;have ad : Aside0 (((ag.setCell ⟨m,0,none⟩ (.int .i64 ((rd_T30 l0 d).f0))).setCell ⟨m,1,none⟩ (.slice q ((rd_T30 l0 d).f1).length s)).heap[m]? = some (.cells #[.int .i64 ((rd_T30 l0 d).f0),.slice q ((rd_T30 l0 d).f1).length s] 30 (0,0))) := ⟨by refine ZY ?_;refine Eae (cs := #[.int .i64 ((rd_T30 l0 d).f0),.slice none 0 0]) ?_ 1 _ rfl;refine ZY ?_;refine Eae (cs := #[.int .i64 0,.slice none 0 0]) ?_ 0 _ rfl;refine ZY ?_;exact j.out⟩;have ae : Aside0 (Below w.heap.size w ((ag.setCell ⟨m,0,none⟩ (.int .i64 ((rd_T30 l0 d).f0))).setCell ⟨m,1,none⟩ (.slice q ((rd_T30 l0 d).f1).length s))) := ⟨ZQ HB⟩;generalize ((ag.setCell ⟨m,0,none⟩ (.int .i64 ((rd_T30 l0 d).f0))).setCell ⟨m,1,none⟩ (.slice q ((rd_T30 l0 d).f1).length s)) = a9 at ac ad ae ⊢;have t := ac;have j := ad;have HB := ae;clear ac ad ae;replace t := ZA (Kd.Edc t.out);replace j := ZA (Ear j.out);replace HB := ZA (Eaf HB.out);have X : 0 <= (d : Int) := ZD;have Y : d < (l1.length : Int) := ZD;obtain ⟨Z,af,u⟩ := Kd.Ean au.out d X Y;have G := u;cases af;replace u := ZX HB u;replace X := eq_true X;replace Y := eq_true Y;refine Ebe (n := 7) (S := fun w' => w'.cell? ⟨m,0,none⟩ = some (.int .i64 ((rd_T30 l0 d).f0)) ∧ w'.cell? ⟨m,1,none⟩ = some (.slice q ((rd_T30 l0 d).f1).length s) ∧ w'.cell? (Z.add (d).toNat) = some (.int .i64 (rd l1 d))) (ds := []) (ZL 7 0) (by kernel_rfl) rfl rfl ⟨ZC j 0 rfl,ZC j 1 rfl,(ZX HB G)⟩ (fun hHeld => ?_);generalize a9.drew = bf at t j HB u hHeld ⊢;refine Ecp (i := 1) (N := some 21) (v := ?_) (a' := ?_) (ZL 7 2) rfl rfl (by kernel_rfl) (fun _ _ _ h => h) (Or.inl ⟨by rfl,?_⟩) ?_ ?_;rotate_left
    ·intro w'
     go_simp
     with_reducible rfl
    rotate_left
    ·simp only [Act.put,zuA,zuB,zuC,Eay,Eba];rfl
    refine Ecp (i := 2) (N := some 22) (v := ?_) (a' := ?_) (ZL 7 6) rfl rfl (by kernel_rfl) (fun _ _ _ h => h) (Or.inl ⟨by rfl,?_⟩) ?_ ?_;rotate_left
    ·intro w'
     go_simp
     with_reducible rfl
    rotate_left
    ·simp only [Act.put,zuA,zuB,zuC,Eay,Eba];rfl
    refine Ecp (i := 3) (N := some 23) (v := ?_) (a' := ?_) (ZL 7 14) rfl rfl (by kernel_rfl) (fun _ _ _ h => h) (Or.inl ⟨by rfl,?_⟩) ?_ ?_;rotate_left
    ·intro w'
     go_simp
     with_reducible rfl
    rotate_left
    ·simp only [Act.put,zuA,zuB,zuC,Eay,Eba];rfl
    refine Edy (i := 0) (N := some 20) (v := ?_) (a' := ?_) (ZL 7 15) rfl rfl (by kernel_rfl) (fun _ _ _ h => h) (Or.inl ⟨by rfl,?_⟩) hHeld ?_ ?_;rotate_left
    ·rintro w' ⟨s0,s1,s2⟩
     go_simp
     with_reducible rfl
    rotate_left
    ·simp only [Act.put,zuA,zuB,zuC,Eay,Eba];rfl
    refine Edy (i := 4) (N := some 24) (v := ?_) (a' := ?_) (ZL 7 31) rfl rfl (by kernel_rfl) (fun _ _ _ h => h) (Or.inl ⟨by rfl,?_⟩) hHeld ?_ ?_;rotate_left
    ·rintro w' ⟨s0,s1,s2⟩
     go_simp
     with_reducible rfl
    rotate_left
    ·simp only [Act.put,zuA,zuB,zuC,Eay,Eba];rfl
    refine one_ (i := 5) (N := some 25) (ZL 7 63) rfl rfl (by kernel_rfl) (by decide) (fun K hK => ?_);refine YS Tryz.func106 #[.agg #[.int .i64 ((rd_T30 l0 d).f0),.slice q ((rd_T30 l0 d).f1).length s],.int .i64 (rd l1 d)] ?_
    with_reducible refine (FF.calls ((rd_T30 l0 d).f0) _ _ ((rd_T30 l0 d).f1) (rd l1 d) true _ (ZR (Kd.Eab J.out HB.out)) M.out aY.out).mono ?_
    rintro e bg ⟨rfl,hb⟩;refine ⟨_,rfl,?_⟩;replace t := ZBR t hb;replace j := ZA (Eac (ZH j) hb);replace HB := BS HB hb;refine hK.out _ _ ⟨ZC j 0 rfl,ZC j 1 rfl,(ZX HB G)⟩ (fun hHeld => ?_);clear hK K;refine YZ (some 25) ?_;refine Ecp (i := 6) (N := some 26) (v := ?_) (a' := ?_) (ZL 7 127) rfl rfl (by kernel_rfl) (fun _ _ _ h => h) (Or.inl ⟨by rfl,?_⟩) ?_ ?_;rotate_left
    ·intro w'
     go_simp
     with_reducible rfl
    rotate_left
    ·simp only [Act.put,zuA,zuB,zuC,Eay,Eba];rfl
    refine Ecb (by kernel_rfl) ?_
    try go_wp2
    go_roundg k1
    case measure => have := av.out;omega
    case rel => exact ⟨(I),(wrap64 (d + 1)),ZG,H',⟨by have := av.out;omega⟩,⟨ZK t⟩,⟨ZQ HB⟩⟩
   replace aw := Bool.eq_false_iff.mpr aw;subst aw;rw [if_neg (show ¬ (false = true) by decide)] at H;replace H := YM H;obtain ⟨aZ,H⟩ := H;have an := ZA aZ;clear aZ;obtain ⟨ao,aa⟩ : ∃ y_ : List Int,y_ = (I ++ [(rd_T30 l0 d).f0]) := ⟨_,rfl⟩;replace H : (FY.l0 k1 l1 ao l0 (l0.length : Int) (wrap64 (d + 1))) = some (r1,r2) := YH aa H;have ap := ZA aa;clear aa;have H' := ZA H;clear H;have U : 0 <= (d : Int) := ZD;have V : d < (l0.length : Int) := ZD;obtain ⟨ak,q,s,ab,y,z,D,E⟩ := at_T30 ar.out d U V;cases ab;replace y := ZX HB y;replace z := ZX HB z;have J := ZA E;have M := ZA D;clear E D;replace U := eq_true U;replace V := eq_true V
   try go_wp2_with (first|((with_reducible refine Ead (N := 8) rfl ?_);refine ZE 8 #[.int .i64 0,.slice none 0 0] 30 ?_;intro m hg ah hbox hb;replace t := ZBR t hb;have j := ZA (hbox);have al := YQ hg HB;have am := YQ hg HB;replace HB := BS HB hb;clear hb hbox hg;have aB : ah.cell? ⟨m,0,none⟩ = some (.int .i64 0) := ZC j 0 rfl;have aC : ah.cell? ⟨m,1,none⟩ = some (.slice none 0 0) := ZC j 1 rfl;have aD := Ea j.out 0;have aE := Ea j.out 1))
   have ac : Aside0 (Kd.R (Kd.int .i64) 3 ((ah.setCell ⟨m,0,none⟩ (.int .i64 ((rd_T30 l0 d).f0))).setCell ⟨m,1,none⟩ (.slice q ((rd_T30 l0 d).f1).length s)) w.heap.size (fun _ => True) u6 I) := ⟨ZK ⟨Kd.Eak (Kd.Ebs (p := ⟨m,1,none⟩) (Kd.Ebs (p := ⟨m,0,none⟩) (Kd.Eaw t.out j.out (by decide)) (fun _ hk => hk.2) (.int .i64 ((rd_T30 l0 d).f0))) (fun _ hk => hk.2) (.slice q ((rd_T30 l0 d).f1).length s)) (fun _ hk => trivial)⟩⟩;have ad : Aside0 (((ah.setCell ⟨m,0,none⟩ (.int .i64 ((rd_T30 l0 d).f0))).setCell ⟨m,1,none⟩ (.slice q ((rd_T30 l0 d).f1).length s)).heap[m]? = some (.cells #[.int .i64 ((rd_T30 l0 d).f0),.slice q ((rd_T30 l0 d).f1).length s] 30 (0,0))) := ⟨by refine ZY ?_;refine Eae (cs := #[.int .i64 ((rd_T30 l0 d).f0),.slice none 0 0]) ?_ 1 _ rfl;refine ZY ?_;refine Eae (cs := #[.int .i64 0,.slice none 0 0]) ?_ 0 _ rfl;refine ZY ?_;exact j.out⟩;have ae : Aside0 (Below w.heap.size w ((ah.setCell ⟨m,0,none⟩ (.int .i64 ((rd_T30 l0 d).f0))).setCell ⟨m,1,none⟩ (.slice q ((rd_T30 l0 d).f1).length s))) := ⟨ZQ HB⟩;generalize ((ah.setCell ⟨m,0,none⟩ (.int .i64 ((rd_T30 l0 d).f0))).setCell ⟨m,1,none⟩ (.slice q ((rd_T30 l0 d).f1).length s)) = ba at ac ad ae ⊢;have t := ac;have j := ad;have HB := ae;clear ac ad ae;replace t := ZA (Kd.Edc t.out);replace j := ZA (Ear j.out);replace HB := ZA (Eaf HB.out);have X : 0 <= (d : Int) := ZD;have Y : d < (l1.length : Int) := ZD;obtain ⟨Z,af,u⟩ := Kd.Ean au.out d X Y;have G := u;cases af;replace u := ZX HB u;replace X := eq_true X;replace Y := eq_true Y;refine Ebe (n := 7) (S := fun w' => w'.cell? ⟨m,0,none⟩ = some (.int .i64 ((rd_T30 l0 d).f0)) ∧ w'.cell? ⟨m,1,none⟩ = some (.slice q ((rd_T30 l0 d).f1).length s) ∧ w'.cell? (Z.add (d).toNat) = some (.int .i64 (rd l1 d))) (ds := []) (ZL 7 0) (by kernel_rfl) rfl rfl ⟨ZC j 0 rfl,ZC j 1 rfl,(ZX HB G)⟩ (fun hHeld => ?_);generalize ba.drew = bh at t j HB u hHeld ⊢;refine Ecp (i := 1) (N := some 21) (v := ?_) (a' := ?_) (ZL 7 2) rfl rfl (by kernel_rfl) (fun _ _ _ h => h) (Or.inl ⟨by rfl,?_⟩) ?_ ?_;rotate_left
   ·intro w'
    go_simp
    with_reducible rfl
   rotate_left
   ·simp only [Act.put,zuA,zuB,zuC,Eay,Eba];rfl
   refine Ecp (i := 2) (N := some 22) (v := ?_) (a' := ?_) (ZL 7 6) rfl rfl (by kernel_rfl) (fun _ _ _ h => h) (Or.inl ⟨by rfl,?_⟩) ?_ ?_;rotate_left
   ·intro w'
    go_simp
    with_reducible rfl
   rotate_left
   ·simp only [Act.put,zuA,zuB,zuC,Eay,Eba];rfl
   refine Ecp (i := 3) (N := some 23) (v := ?_) (a' := ?_) (ZL 7 14) rfl rfl (by kernel_rfl) (fun _ _ _ h => h) (Or.inl ⟨by rfl,?_⟩) ?_ ?_;rotate_left
   ·intro w'
    go_simp
    with_reducible rfl
   rotate_left
   ·simp only [Act.put,zuA,zuB,zuC,Eay,Eba];rfl
   refine Edy (i := 0) (N := some 20) (v := ?_) (a' := ?_) (ZL 7 15) rfl rfl (by kernel_rfl) (fun _ _ _ h => h) (Or.inl ⟨by rfl,?_⟩) hHeld ?_ ?_;rotate_left
   ·rintro w' ⟨s0,s1,s2⟩
    go_simp
    with_reducible rfl
   rotate_left
   ·simp only [Act.put,zuA,zuB,zuC,Eay,Eba];rfl
   refine Edy (i := 4) (N := some 24) (v := ?_) (a' := ?_) (ZL 7 31) rfl rfl (by kernel_rfl) (fun _ _ _ h => h) (Or.inl ⟨by rfl,?_⟩) hHeld ?_ ?_;rotate_left
   ·rintro w' ⟨s0,s1,s2⟩
    go_simp
    with_reducible rfl
   rotate_left
   ·simp only [Act.put,zuA,zuB,zuC,Eay,Eba];rfl
   refine one_ (i := 5) (N := some 25) (ZL 7 63) rfl rfl (by kernel_rfl) (by decide) (fun K hK => ?_);refine YS Tryz.func106 #[.agg #[.int .i64 ((rd_T30 l0 d).f0),.slice q ((rd_T30 l0 d).f1).length s],.int .i64 (rd l1 d)] ?_
   with_reducible refine (FF.calls ((rd_T30 l0 d).f0) _ _ ((rd_T30 l0 d).f1) (rd l1 d) false _ (ZR (Kd.Eab J.out HB.out)) M.out aY.out).mono ?_
   rintro e a0 ⟨rfl,hb⟩;refine ⟨_,rfl,?_⟩;replace t := ZBR t hb;replace j := ZA (Eac (ZH j) hb);replace HB := BS HB hb;refine hK.out _ _ ⟨ZC j 0 rfl,ZC j 1 rfl,(ZX HB G)⟩ (fun hHeld => ?_);clear hK K;refine YZ (some 25) ?_;refine Ecp (i := 6) (N := some 26) (v := ?_) (a' := ?_) (ZL 7 127) rfl rfl (by kernel_rfl) (fun _ _ _ h => h) (Or.inl ⟨by rfl,?_⟩) ?_ ?_;rotate_left
   ·intro w'
    go_simp
    with_reducible rfl
   rotate_left
   ·simp only [Act.put,zuA,zuB,zuC,Eay,Eba];rfl
   refine Ecb (by kernel_rfl) ?_;have aF : a0.cell? ⟨m,0,none⟩ = some (.int .i64 ((rd_T30 l0 d).f0)) := ZC j 0 rfl;have aG : a0.cell? ⟨m,1,none⟩ = some (.slice q ((rd_T30 l0 d).f1).length s) := ZC j 1 rfl;have aH := Ea j.out 0;have aI := Ea j.out 1
   try go_wp2_with (first|((with_reducible refine Eal (b := .append) (xs := #[.tmp 27,.tmp 30]) rfl ?_);at_builtin;refine Kd.Edl (Kd.int .i64) (w0 := w) w.heap.size rfl (.tmp 27) (.tmp 30) 28 3 (.int .i64 0) 8 rfl Tryz.underlying28 info3 rfl (by decide) (by omega) u6 I ((rd_T30 l0 d).f0) [.int .i64 ((rd_T30 l0 d).f0)] (fun _ => True) (fun _ => False) rfl rfl rfl (fun _ hk => hk.elim) (fun _ _ => trivial) (ZK t) (ZQ HB) (SZ HB) ?aL ?_;(case aL => have := an.out;omega);intro bb bi ho hb hg hat;rw [<- ap.out] at ho;replace j := ZA (Ecd (g := m) (o := .cells #[.int .i64 ((rd_T30 l0 d).f0),.slice q ((rd_T30 l0 d).f1).length s] 30 (0,0)) (ZH j) hg (Kd.R_ne t.out j.out (by decide)));replace HB := ZA (hb);have aq := ZA (ho);clear t;clear ho hb hg hat))
   go_roundg k1
   case measure => have := av.out;omega
   case rel => exact ⟨(ao),(wrap64 (d + 1)),ZG,H',⟨by have := av.out;omega⟩,⟨ZK aq⟩,⟨ZQ HB⟩⟩
def GA.l0 : Nat -> List Int -> List Int -> List (S30) -> Int -> Int -> Option (List Int × Bool)
 | 0,_,_,_,_,_ => none
 | k + 1,x1,x6,g,i,d => if d < i then (if 0 <= d then (if d < (g.length : Int) then (if d < (x1.length : Int) then ((Fv.f k ((rd_T30 g d).f0) ((rd_T30 g d).f1)).bind fun j => (if (rd x1 d) = j then (GA.l0 k x1 x6 g i (wrap64 (d + 1))) else ((Fu.f k x6 ((rd_T30 g d).f0)).bind fun m => (GA.l0 k x1 m g i (wrap64 (d + 1)))))) else (none)) else (none)) else (none)) else (some (x6,true))
def GA.f (k : Nat) (l0 : List (S30)) (l1 : List Int) : Option (List Int × Bool) := (Fk.f k l0 l1).bind fun d => (if d = true then (GA.l0 k l1 ([] : List Int) l0 (l0.length : Int) 0) else (some (([] : List Int),false)))
theorem GA.calls (k : Nat) (A0 : Option Addr) (c0 : Nat) (l0 : List (S30)) (A1 : Option Addr) (c1 : Nat) (l1 : List Int) (r1 : List Int) (r2 : Bool) (w : World) (aK : Kd.C k30 w A0 l0.length l0) (aL : l0.length <= c0) (aM : Kd.C (Kd.int .i64) w A1 l1.length l1) (aN : l1.length <= c1) (h : GA.f k l0 l1 = some (r1,r2)) :
  Calls Tryz.prog 49 #[.slice A0 l0.length c0,.slice A1 l1.length c1] w fun e w' => ∃ aO : Value,e = .returned (.tuple #[aO,.bool r2]) ∧ Kd.V (Kd.int .i64) 3 w' w.heap.size (fun k_ => (w.heap.size <= k_)) aO r1 ∧ Below w.heap.size w w' := by
 have aT := Tryz.underlying30;have ap := ZA aK;have aP := ZA aL;clear aK aL;have aq := ZA aM;have aQ := ZA aN;clear aM aN;have HB := ZA (Below.refl w.heap.size w);have H := h;clear h;unfold GA.f at H;replace H := YJ H;obtain ⟨aU,A3,H⟩ := H;replace H := YF H;rcases H with ⟨rfl,H⟩|⟨rfl,H⟩;rotate_left
 ·simp only [Option.some.injEq,Prod.mk.injEq] at H;obtain ⟨rfl,rfl⟩ := H;go_enter Tryz.func49,Tryz.ntmps49
  go_wp2_with (first|((with_reducible refine YG 107 ?_);refine YC (some 11) Tryz.func107 #[.slice A0 l0.length c0,.slice A1 l1.length c1] (Fk.calls k _ _ l0 _ _ l1 false _ (ZR ap.out) aP.out (ZR aq.out) aQ.out A3.out) ?_;rintro e a4 ⟨rfl,hb⟩;refine ⟨_,rfl,?_⟩;replace HB := BS HB hb))
  go_ret2;exact ⟨_,YR,Kd.Eef _ _ _ _ _,ZQ HB⟩
 have H' := ZA H;clear H;go_enter Tryz.func49,Tryz.ntmps49
 go_wp2_with (first|((with_reducible refine YG 107 ?_);refine YC (some 11) Tryz.func107 #[.slice A0 l0.length c0,.slice A1 l1.length c1] (Fk.calls k _ _ l0 _ _ l1 true _ (ZR ap.out) aP.out (ZR aq.out) aQ.out A3.out) ?_;rintro e w5 ⟨rfl,hb⟩;refine ⟨_,rfl,?_⟩;replace HB := BS HB hb))
 go_loopg [6,15] k (fun kq v6 aV w' => ∃ (I : List Int) (d : Int),aV = .int .i64 d ∧ Aside0 (GA.l0 kq l1 I l0 (l0.length : Int) d = some (r1,r2)) ∧ Aside0 (kq <= k) ∧ Aside0 (Kd.V (Kd.int .i64) 3 w' w.heap.size (fun k_ => (w.heap.size <= k_)) v6 I) ∧ Aside0 (Below w.heap.size w w'))
 case atStart => exact ⟨(([] : List Int)),(0),ZG,H',⟨Nat.le_refl _⟩,⟨Kd.Eef _ _ _ _ _⟩,⟨ZQ HB⟩⟩
 case round =>
  clear H';obtain ⟨I,d,rfl,HA,ar,q,HB⟩ := hrel;cases gk with
  | zero => exact absurd HA.out (by simp [GA.l0])
  | succ k1 =>
   have H := HA.out;clear HA;simp only [GA.l0] at H;replace H := YI H;rcases H with ⟨aG,H⟩|⟨aG,H⟩;rotate_left
   ·simp only [Option.some.injEq,Prod.mk.injEq] at H;obtain ⟨rfl,rfl⟩ := H;go_wp2;go_ret2;exact ⟨_,YR,ZKV q,ZQ HB⟩
   replace H := YN H;obtain ⟨aW,H⟩ := H;replace H := YN H;obtain ⟨aX,H⟩ := H;replace H := YN H;obtain ⟨aY,H⟩ := H;replace H := YJ H;obtain ⟨J,aR,H⟩ := H;by_cases aa : (rd l1 d) = J
   ·rw [if_pos aa] at H;have ai : ((rd l1 d) == J) = true := beq_iff_eq.mpr aa;have aj : ((rd l1 d) != J) = false := bne_eq_false_iff_eq.mpr aa;clear aa;have H' := ZA H;clear H;have M : 0 <= (d : Int) := ZD;have U : d < (l0.length : Int) := ZD;obtain ⟨ak,m,o,ab,t,u,y,z⟩ := at_T30 ap.out d M U;cases ab;replace t := ZX HB t;replace u := ZX HB u;have E := ZA z;have G := ZA y;clear z y;replace M := eq_true M;replace U := eq_true U
    try go_wp2_with (first|((with_reducible refine Ead (N := 8) rfl ?_);refine ZE 8 #[.int .i64 0,.slice none 0 0] 30 ?_;intro g hg ag hbox hb;replace q := ZA (Kd.Edd (Kd.Ede (ZKV q) g (Nat.le_of_eq hg.symm)) hb);have j := ZA (hbox);have al := YQ hg HB;have am := YQ hg HB;replace HB := BS HB hb;clear hb hbox hg;have au : ag.cell? ⟨g,0,none⟩ = some (.int .i64 0) := ZC j 0 rfl;have av : ag.cell? ⟨g,1,none⟩ = some (.slice none 0 0) := ZC j 1 rfl;have aw := Ea j.out 0;have ax := Ea j.out 1))
    have ac : Aside0 (Kd.V (Kd.int .i64) 3 ((ag.setCell ⟨g,0,none⟩ (.int .i64 ((rd_T30 l0 d).f0))).setCell ⟨g,1,none⟩ (.slice m ((rd_T30 l0 d).f1).length o)) w.heap.size (fun k_ => (w.heap.size <= k_) ∧ k_ ≠ g) u6 I) := ⟨ZKV ⟨Kd.Eax (Kd.Edp (p := ⟨g,1,none⟩) (Kd.Edp (p := ⟨g,0,none⟩) (Kd.Eax q.out (fun k_ hk => (⟨hk,hk.2⟩ : _ ∧ k_ ≠ g))) (fun _ hk => hk.2) (.int .i64 ((rd_T30 l0 d).f0))) (fun _ hk => hk.2) (.slice m ((rd_T30 l0 d).f1).length o)) (fun _ hk => ⟨hk.1.1,hk.1.2⟩)⟩⟩;have ad : Aside0 (((ag.setCell ⟨g,0,none⟩ (.int .i64 ((rd_T30 l0 d).f0))).setCell ⟨g,1,none⟩ (.slice m ((rd_T30 l0 d).f1).length o)).heap[g]? = some (.cells #[.int .i64 ((rd_T30 l0 d).f0),.slice m ((rd_T30 l0 d).f1).length o] 30 (0,0))) := ⟨by refine ZY ?_;refine Eae (cs := #[.int .i64 ((rd_T30 l0 d).f0),.slice none 0 0]) ?_ 1 _ rfl;refine ZY ?_;refine Eae (cs := #[.int .i64 0,.slice none 0 0]) ?_ 0 _ rfl;refine ZY ?_;exact j.out⟩;have ae : Aside0 (Below w.heap.size w ((ag.setCell ⟨g,0,none⟩ (.int .i64 ((rd_T30 l0 d).f0))).setCell ⟨g,1,none⟩ (.slice m ((rd_T30 l0 d).f1).length o))) := ⟨ZQ HB⟩;generalize ((ag.setCell ⟨g,0,none⟩ (.int .i64 ((rd_T30 l0 d).f0))).setCell ⟨g,1,none⟩ (.slice m ((rd_T30 l0 d).f1).length o)) = aZ at ac ad ae ⊢;have q := ac;have j := ad;have HB := ae;clear ac ad ae;replace q := ZA (Kd.Efb q.out);replace j := ZA (Ear j.out);replace HB := ZA (Eaf HB.out);have X : 0 <= (d : Int) := ZD;have Y : d < (l1.length : Int) := ZD;obtain ⟨Z,af,s⟩ := Kd.Ean aq.out d X Y;have D := s;cases af;replace s := ZX HB s;replace X := eq_true X;replace Y := eq_true Y;refine Ebe (n := 7) (S := fun w' => w'.cell? ⟨g,0,none⟩ = some (.int .i64 ((rd_T30 l0 d).f0)) ∧ w'.cell? ⟨g,1,none⟩ = some (.slice m ((rd_T30 l0 d).f1).length o) ∧ w'.cell? (Z.add (d).toNat) = some (.int .i64 (rd l1 d))) (ds := []) (ZL 7 0) (by kernel_rfl) rfl rfl ⟨ZC j 0 rfl,ZC j 1 rfl,(ZX HB D)⟩ (fun hHeld => ?_);generalize aZ.drew = a5 at q j HB s hHeld ⊢;refine Ecp (i := 0) (N := some 20) (v := ?_) (a' := ?_) (ZL 7 1) rfl rfl (by kernel_rfl) (fun _ _ _ h => h) (Or.inl ⟨by rfl,?_⟩) ?_ ?_;rotate_left
    ·intro w'
     go_simp
     with_reducible rfl
    rotate_left
    ·simp only [Act.put,zuA,zuB,zuC,Eay,Eba];rfl
    refine Ecp (i := 1) (N := some 21) (v := ?_) (a' := ?_) (ZL 7 3) rfl rfl (by kernel_rfl) (fun _ _ _ h => h) (Or.inl ⟨by rfl,?_⟩) ?_ ?_;rotate_left
    ·intro w'
     go_simp
     with_reducible rfl
    rotate_left
    ·simp only [Act.put,zuA,zuB,zuC,Eay,Eba];rfl
    refine Ecp (i := 2) (N := some 22) (v := ?_) (a' := ?_) (ZL 7 7) rfl rfl (by kernel_rfl) (fun _ _ _ h => h) (Or.inl ⟨by rfl,?_⟩) ?_ ?_;rotate_left
    ·intro w'
     go_simp
     with_reducible rfl
    rotate_left
    ·simp only [Act.put,zuA,zuB,zuC,Eay,Eba];rfl
    refine Edy (i := 3) (N := some 23) (v := ?_) (a' := ?_) (ZL 7 15) rfl rfl (by kernel_rfl) (fun _ _ _ h => h) (Or.inl ⟨by rfl,?_⟩) hHeld ?_ ?_;rotate_left
    ·rintro w' ⟨s0,s1,s2⟩
     go_simp
     with_reducible rfl
    rotate_left
    ·simp only [Act.put,zuA,zuB,zuC,Eay,Eba];rfl
    refine Edy (i := 4) (N := some 24) (v := ?_) (a' := ?_) (ZL 7 31) rfl rfl (by kernel_rfl) (fun _ _ _ h => h) (Or.inl ⟨by rfl,?_⟩) hHeld ?_ ?_;rotate_left
    ·rintro w' ⟨s0,s1,s2⟩
     go_simp
     with_reducible rfl
    rotate_left
    ·simp only [Act.put,zuA,zuB,zuC,Eay,Eba];rfl
    refine one_ (i := 5) (N := some 25) (ZL 7 63) rfl rfl (by kernel_rfl) (by decide) (fun K hK => ?_);refine YS Tryz.func109 #[.agg #[.int .i64 ((rd_T30 l0 d).f0),.slice m ((rd_T30 l0 d).f1).length o]] ?_
    with_reducible refine (Fv.calls k1 ((rd_T30 l0 d).f0) _ _ ((rd_T30 l0 d).f1) J _ (ZR (Kd.Eab E.out HB.out)) G.out aR.out).mono ?_
    rintro e a6 ⟨rfl,hb⟩;refine ⟨_,rfl,?_⟩;replace q := ZBV q hb;replace j := ZA (Eac (ZH j) hb);replace HB := BS HB hb;refine hK.out _ _ ⟨ZC j 0 rfl,ZC j 1 rfl,(ZX HB D)⟩ (fun hHeld => ?_);clear hK K;refine YZ (some 25) ?_;refine Ecp (i := 6) (N := some 26) (v := ?_) (a' := ?_) (ZL 7 127) rfl rfl (by kernel_rfl) (fun _ _ _ h => h) (Or.inl ⟨by rfl,?_⟩) ?_ ?_;rotate_left
    ·intro w'
     go_simp
     with_reducible rfl
    rotate_left
    ·simp only [Act.put,zuA,zuB,zuC,Eay,Eba];rfl
    refine Ecb (by kernel_rfl) ?_
    try go_wp2
    go_roundg k1
    case measure => have := ar.out;omega
    case rel => exact ⟨(I),(wrap64 (d + 1)),ZG,H',⟨by have := ar.out;omega⟩,⟨ZKV ⟨Kd.Eax q.out (fun _ hk => hk.1)⟩⟩,⟨ZQ HB⟩⟩
   rw [if_neg aa] at H;have ai : ((rd l1 d) == J) = false := beq_eq_false_iff_ne.mpr aa;have aj : ((rd l1 d) != J) = true := bne_iff_ne.mpr aa;replace H := YJ H;obtain ⟨an,a0,H⟩ := H;have H' := ZA H;clear H;have M : 0 <= (d : Int) := ZD;have U : d < (l0.length : Int) := ZD;obtain ⟨ak,m,o,ab,t,u,y,z⟩ := at_T30 ap.out d M U;cases ab;replace t := ZX HB t;replace u := ZX HB u;have E := ZA z;have G := ZA y;clear z y;replace M := eq_true M;replace U := eq_true U
   try go_wp2_with (first|((with_reducible refine Ead (N := 8) rfl ?_);refine ZE 8 #[.int .i64 0,.slice none 0 0] 30 ?_;intro g hg ah hbox hb;replace q := ZA (Kd.Edd (Kd.Ede (ZKV q) g (Nat.le_of_eq hg.symm)) hb);have j := ZA (hbox);have al := YQ hg HB;have am := YQ hg HB;replace HB := BS HB hb;clear hb hbox hg;have ay : ah.cell? ⟨g,0,none⟩ = some (.int .i64 0) := ZC j 0 rfl;have az : ah.cell? ⟨g,1,none⟩ = some (.slice none 0 0) := ZC j 1 rfl;have aA := Ea j.out 0;have aB := Ea j.out 1))
   have ac : Aside0 (Kd.V (Kd.int .i64) 3 ((ah.setCell ⟨g,0,none⟩ (.int .i64 ((rd_T30 l0 d).f0))).setCell ⟨g,1,none⟩ (.slice m ((rd_T30 l0 d).f1).length o)) w.heap.size (fun k_ => (w.heap.size <= k_) ∧ k_ ≠ g) u6 I) := ⟨ZKV ⟨Kd.Eax (Kd.Edp (p := ⟨g,1,none⟩) (Kd.Edp (p := ⟨g,0,none⟩) (Kd.Eax q.out (fun k_ hk => (⟨hk,hk.2⟩ : _ ∧ k_ ≠ g))) (fun _ hk => hk.2) (.int .i64 ((rd_T30 l0 d).f0))) (fun _ hk => hk.2) (.slice m ((rd_T30 l0 d).f1).length o)) (fun _ hk => ⟨hk.1.1,hk.1.2⟩)⟩⟩;have ad : Aside0 (((ah.setCell ⟨g,0,none⟩ (.int .i64 ((rd_T30 l0 d).f0))).setCell ⟨g,1,none⟩ (.slice m ((rd_T30 l0 d).f1).length o)).heap[g]? = some (.cells #[.int .i64 ((rd_T30 l0 d).f0),.slice m ((rd_T30 l0 d).f1).length o] 30 (0,0))) := ⟨by refine ZY ?_;refine Eae (cs := #[.int .i64 ((rd_T30 l0 d).f0),.slice none 0 0]) ?_ 1 _ rfl;refine ZY ?_;refine Eae (cs := #[.int .i64 0,.slice none 0 0]) ?_ 0 _ rfl;refine ZY ?_;exact j.out⟩;have ae : Aside0 (Below w.heap.size w ((ah.setCell ⟨g,0,none⟩ (.int .i64 ((rd_T30 l0 d).f0))).setCell ⟨g,1,none⟩ (.slice m ((rd_T30 l0 d).f1).length o))) := ⟨ZQ HB⟩;generalize ((ah.setCell ⟨g,0,none⟩ (.int .i64 ((rd_T30 l0 d).f0))).setCell ⟨g,1,none⟩ (.slice m ((rd_T30 l0 d).f1).length o)) = a1 at ac ad ae ⊢;have q := ac;have j := ad;have HB := ae;clear ac ad ae;replace q := ZA (Kd.Efb q.out);replace j := ZA (Ear j.out);replace HB := ZA (Eaf HB.out);have X : 0 <= (d : Int) := ZD;have Y : d < (l1.length : Int) := ZD;obtain ⟨Z,af,s⟩ := Kd.Ean aq.out d X Y;have D := s;cases af;replace s := ZX HB s;replace X := eq_true X;replace Y := eq_true Y;refine Ebe (n := 7) (S := fun w' => w'.cell? ⟨g,0,none⟩ = some (.int .i64 ((rd_T30 l0 d).f0)) ∧ w'.cell? ⟨g,1,none⟩ = some (.slice m ((rd_T30 l0 d).f1).length o) ∧ w'.cell? (Z.add (d).toNat) = some (.int .i64 (rd l1 d))) (ds := []) (ZL 7 0) (by kernel_rfl) rfl rfl ⟨ZC j 0 rfl,ZC j 1 rfl,(ZX HB D)⟩ (fun hHeld => ?_);generalize a1.drew = a7 at q j HB s hHeld ⊢;refine Ecp (i := 0) (N := some 20) (v := ?_) (a' := ?_) (ZL 7 1) rfl rfl (by kernel_rfl) (fun _ _ _ h => h) (Or.inl ⟨by rfl,?_⟩) ?_ ?_;rotate_left
   ·intro w'
    go_simp
    with_reducible rfl
   rotate_left
   ·simp only [Act.put,zuA,zuB,zuC,Eay,Eba];rfl
   refine Ecp (i := 1) (N := some 21) (v := ?_) (a' := ?_) (ZL 7 3) rfl rfl (by kernel_rfl) (fun _ _ _ h => h) (Or.inl ⟨by rfl,?_⟩) ?_ ?_;rotate_left
   ·intro w'
    go_simp
    with_reducible rfl
   rotate_left
   ·simp only [Act.put,zuA,zuB,zuC,Eay,Eba];rfl
   refine Ecp (i := 2) (N := some 22) (v := ?_) (a' := ?_) (ZL 7 7) rfl rfl (by kernel_rfl) (fun _ _ _ h => h) (Or.inl ⟨by rfl,?_⟩) ?_ ?_;rotate_left
   ·intro w'
    go_simp
    with_reducible rfl
   rotate_left
   ·simp only [Act.put,zuA,zuB,zuC,Eay,Eba];rfl
   refine Edy (i := 3) (N := some 23) (v := ?_) (a' := ?_) (ZL 7 15) rfl rfl (by kernel_rfl) (fun _ _ _ h => h) (Or.inl ⟨by rfl,?_⟩) hHeld ?_ ?_;rotate_left
   ·rintro w' ⟨s0,s1,s2⟩
    go_simp
    with_reducible rfl
   rotate_left
   ·simp only [Act.put,zuA,zuB,zuC,Eay,Eba];rfl
   refine Edy (i := 4) (N := some 24) (v := ?_) (a' := ?_) (ZL 7 31) rfl rfl (by kernel_rfl) (fun _ _ _ h => h) (Or.inl ⟨by rfl,?_⟩) hHeld ?_ ?_;rotate_left
   ·rintro w' ⟨s0,s1,s2⟩
    go_simp
    with_reducible rfl
   rotate_left
   ·simp only [Act.put,zuA,zuB,zuC,Eay,Eba];rfl
   refine one_ (i := 5) (N := some 25) (ZL 7 63) rfl rfl (by kernel_rfl) (by decide) (fun K hK => ?_);refine YS Tryz.func109 #[.agg #[.int .i64 ((rd_T30 l0 d).f0),.slice m ((rd_T30 l0 d).f1).length o]] ?_
   with_reducible refine (Fv.calls k1 ((rd_T30 l0 d).f0) _ _ ((rd_T30 l0 d).f1) J _ (ZR (Kd.Eab E.out HB.out)) G.out aR.out).mono ?_
   rintro e aS ⟨rfl,hb⟩;refine ⟨_,rfl,?_⟩;replace q := ZBV q hb;replace j := ZA (Eac (ZH j) hb);replace HB := BS HB hb;refine hK.out _ _ ⟨ZC j 0 rfl,ZC j 1 rfl,(ZX HB D)⟩ (fun hHeld => ?_);clear hK K;refine YZ (some 25) ?_;refine Ecp (i := 6) (N := some 26) (v := ?_) (a' := ?_) (ZL 7 127) rfl rfl (by kernel_rfl) (fun _ _ _ h => h) (Or.inl ⟨by rfl,?_⟩) ?_ ?_;rotate_left
   ·intro w'
    go_simp
    with_reducible rfl
   rotate_left
   ·simp only [Act.put,zuA,zuB,zuC,Eay,Eba];rfl
   refine Ecb (by kernel_rfl) ?_;have aC : aS.cell? ⟨g,0,none⟩ = some (.int .i64 ((rd_T30 l0 d).f0)) := ZC j 0 rfl;have aD : aS.cell? ⟨g,1,none⟩ = some (.slice m ((rd_T30 l0 d).f1).length o) := ZC j 1 rfl;have aE := Ea j.out 0;have aF := Ea j.out 1;obtain ⟨aH,aI,aJ⟩ := Kd.Ecz q.out;subst aJ
   try go_wp2_with (first|((with_reducible refine YG 98 ?_);refine YC (some 30) Tryz.func98 #[.slice aH I.length aI,.int .i64 ((rd_T30 l0 d).f0)] (Fu.calls k1 (fun k_ => ((w.heap.size <= k_) ∧ k_ ≠ g)) _ _ I ((rd_T30 l0 d).f0) an _ q.out a0.out) ?_;rintro e a8 ⟨a2,rfl,a3,hb⟩;refine ⟨_,rfl,?_⟩;replace q := ZBV q hb;have ao := ZA (Kd.Edn (Kd.Eax (ok' := fun k_ => (w.heap.size <= k_) ∧ k_ ≠ g) a3 (fun k_ hk_ => ⟨Or.elim hk_ (fun hs_ => hs_.1) (fun hn_ => (Nat.le_trans (SZ HB) hn_)),Or.elim hk_ (fun hs_ => hs_.2) (fun hn_ => (Kd.Efi (ZH j) k_ hn_))⟩)) (SZ HB));replace j := ZA (Eac (ZH j) hb);replace HB := BS HB hb))
   go_roundg k1
   case measure => have := ar.out;omega
   case rel => exact ⟨(an),(wrap64 (d + 1)),ZG,H',⟨by have := ar.out;omega⟩,⟨ZKV ⟨Kd.Eax ao.out (fun _ hk => hk.1)⟩⟩,⟨ZQ HB⟩⟩
end Go.Proofs.YtgnijnlgbelifaaGreat.Q
