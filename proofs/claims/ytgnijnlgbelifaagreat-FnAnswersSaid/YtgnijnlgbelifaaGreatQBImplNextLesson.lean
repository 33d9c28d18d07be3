import Derived.Test.YtgnijnlgbelifaaGreatQBSpecLeLessons
import Derived.Test.YtgnijnlgbelifaaGreatQImplNextLesson1
namespace Go.Proofs.YtgnijnlgbelifaaGreat.Q
open RowKit W.PrintWords W.PrintLast W.PrintMore W.GCall
attribute [local go_sem] Ebi Ebj Ebx Eby Ebb Ebc Ebk Ebl
set_option linter.unusedVariables false
set_option maxHeartbeats 3000000
set_option maxRecDepth 100000
set_option linter.unusedSimpArgs false
def FS.j0 : Nat -> List (S30) -> List Int -> Int -> Bool -> List (List Int) -> Int -> Option (Bool × Bool)
 | 0,_,_,_,_,_,_ => none
 | k + 1,x3,x4,x5,m,d,g => if m = true then (some (false,false)) else (if (x3.length : Int) = 0 then (some (false,false)) else ((FC.f k x3 d g).bind fun j => (if j = true then ((FT.f k x3 x4).bind fun i => (if (wrap64 (100 * i.1)) >= (wrap64 (x5 * (x3.length : Int))) then (some (decide (g < (d.length : Int)),true)) else (some (false,true)))) else (some (false,false)))))
def FS.f (k : Nat) (l0 : List (S41)) (l1 : List (List Int)) (a2 : Int) (l3 : List (S30)) (l4 : List Int) (a5 : Int) : Option (Bool × Bool) := (GI.f k l0 l1).bind fun d => (if d = true then ((FB.f a2 0 (l1.length : Int)).bind fun g => (if g = true then ((Fn.f k l3 l4).bind fun i => (if i = true then ((FB.f a5 0 100).bind fun j => (FS.j0 k l3 l4 a5 (!j) l1 a2)) else (FS.j0 k l3 l4 a5 true l1 a2))) else (FS.j0 k l3 l4 a5 true l1 a2))) else (FS.j0 k l3 l4 a5 true l1 a2))
theorem FS.calls (k : Nat) (A0 : Option Addr) (c0 : Nat) (l0 : List (S41)) (A1 : Option Addr) (c1 : Nat) (l1 : List (List Int)) (a2 : Int) (A3 : Option Addr) (c3 : Nat) (l3 : List (S30)) (A4 : Option Addr) (c4 : Nat) (l4 : List Int) (a5 : Int) (r1 : Bool) (r2 : Bool) (w : World) (aG : Kd.C k41 w A0 l0.length l0) (aH : l0.length <= c0) (aI : Kd.C (Kd.slice 3 (Kd.int .i64)) w A1 l1.length l1) (aJ : l1.length <= c1) (aK : Kd.C k30 w A3 l3.length l3) (aL : l3.length <= c3) (aM : Kd.C (Kd.int .i64) w A4 l4.length l4) (aN : l4.length <= c4) (h : FS.f k l0 l1 a2 l3 l4 a5 = some (r1,r2)) :
  Calls Tryz.prog 54 #[.slice A0 l0.length c0,.slice A1 l1.length c1,.int .i64 a2,.slice A3 l3.length c3,.slice A4 l4.length c4,.int .i64 a5] w fun e w' => e = .returned (.tuple #[.bool r1,.bool r2]) ∧ Below w.heap.size w w' := by
 have X := ZA aG;have Y := ZA aH;clear aG aH;have u := ZA aI;have v := ZA aJ;clear aI aJ;have y := ZA aK;have z := ZA aL;clear aK aL;have Z := ZA aM;have aa := ZA aN;clear aM aN;have HB := ZA (Below.refl w.heap.size w);have H := h;clear h;unfold FS.f at H;have aD := ZA H;clear H;go_enter Tryz.func54,Tryz.ntmps54
 go_upto_region 1 with (first|((with_reducible refine Ead (N := 7) rfl ?_);(try (refine Eau (by rfl) ?_;dsimp only));refine ZE 7 #[.slice A1 l1.length c1] 25 ?_;intro j hg w8 hbox hb;have d := ZA (hbox);have aO := YQ hg HB;have aP := YQ hg HB;replace HB := BS HB hb;clear hb hbox hg)|((with_reducible refine Ead (N := 8) rfl ?_);(try (refine Eau (by rfl) ?_;dsimp only));refine ZE 8 #[.int .i64 a2] 3 ?_;intro p hg w9 hbox hb;have i := ZA (hbox);have aQ := YQ hg HB;have aR := YQ hg HB;replace HB := BS HB hb;have m := ZA ((by rw [hg];exact Nat.ne_of_lt (Ebp (g := j) (o := .cells #[.slice A1 l1.length c1] 25 (0,0)) (ZH d)) : j ≠ p));have n := ZA ((by rw [hg];exact Nat.ne_of_gt (Ebp (g := j) (o := .cells #[.slice A1 l1.length c1] 25 (0,0)) (ZH d)) : p ≠ j));replace d := ZA (Eac (ZH d) hb);clear hb hbox hg))
 (try simp only [Act.put,zuA,zuB,zuC])
 go_cut [38] (fun bb wc => ∃ (kq : Nat) (q : Bool),bb = .bool q ∧ Aside0 (FS.j0 kq l3 l4 a5 q l1 a2 = some (r1,r2)) ∧ Aside0 (kq <= k) ∧ Aside0 (wc.heap[j]? = some (.cells #[(.slice A1 l1.length c1)] 25 (0,0))) ∧ Aside0 (wc.heap[p]? = some (.cells #[.int .i64 a2] 3 (0,0))) ∧ Aside0 (Below w.heap.size w wc))
 case first =>
  have H := aD.out;clear aD;replace H := YJ H;obtain ⟨bc,ab,H⟩ := H;replace H := YF H;rcases H with ⟨rfl,H⟩|⟨rfl,H⟩;rotate_left
  ·have H' := ZA H;clear H;have aS := m.out;have aT := n.out;have ac : w9.cell? ⟨j,0,none⟩ = some (.slice A1 l1.length c1) := ZC d 0 rfl;have ad := Ea d.out 0
   go_wp2_with (first|((with_reducible refine YG 61 ?_);refine YC (some 19) Tryz.func61 #[.slice A0 l0.length c0,.slice A1 l1.length c1] (GI.calls k _ _ l0 _ _ l1 false _ (ZR (Kd.Eab X.out HB.out)) Y.out (ZR (Kd.Eab u.out HB.out)) v.out ab.out) ?_;rintro e bi ⟨rfl,hb⟩;refine ⟨_,rfl,?_⟩;replace d := ZA (Eac (ZH d) hb);replace i := ZA (Eac (ZH i) hb);replace HB := BS HB hb))
   go_meet
   case rel => exact ⟨_,(true),ZG,H',⟨YO⟩,⟨ZH d⟩,⟨ZH i⟩,⟨ZQ HB⟩⟩
  replace H := YJ H;obtain ⟨bd,aE,H⟩ := H;replace H := YF H;rcases H with ⟨rfl,H⟩|⟨rfl,H⟩;rotate_left
  ·have H' := ZA H;clear H;have aU := m.out;have aV := n.out;have ae : w9.cell? ⟨j,0,none⟩ = some (.slice A1 l1.length c1) := ZC d 0 rfl;have af := Ea d.out 0
   go_wp2_with (first|((with_reducible refine YG 61 ?_);refine YC (some 19) Tryz.func61 #[.slice A0 l0.length c0,.slice A1 l1.length c1] (GI.calls k _ _ l0 _ _ l1 true _ (ZR (Kd.Eab X.out HB.out)) Y.out (ZR (Kd.Eab u.out HB.out)) v.out ab.out) ?_;rintro e aW ⟨rfl,hb⟩;refine ⟨_,rfl,?_⟩;replace d := ZA (Eac (ZH d) hb);replace i := ZA (Eac (ZH i) hb);replace HB := BS HB hb;have ag : aW.cell? ⟨p,0,none⟩ = some (.int .i64 a2) := ZC i 0 rfl;have ah := Ea i.out 0;have ai : aW.cell? ⟨j,0,none⟩ = some (.slice A1 l1.length c1) := ZC d 0 rfl;have aj := Ea d.out 0)|(go_at_call 62;(with_reducible refine (FB.calls a2 0 (l1.length : Int) false _ aE.out).mono ?_);rintro e w' ⟨rfl,⟨nd,rfl⟩⟩))
   go_meet
   case rel => exact ⟨_,(true),ZG,H',⟨YO⟩,⟨ZH d⟩,⟨ZH i⟩,⟨ZQ HB⟩⟩
  replace H := YJ H;obtain ⟨bf,aX,H⟩ := H;replace H := YF H;rcases H with ⟨rfl,H⟩|⟨rfl,H⟩;rotate_left
  ·have H' := ZA H;clear H;have aY := m.out;have aZ := n.out;have ak : w9.cell? ⟨j,0,none⟩ = some (.slice A1 l1.length c1) := ZC d 0 rfl;have al := Ea d.out 0
   go_wp2_with (first|((with_reducible refine YG 61 ?_);refine YC (some 19) Tryz.func61 #[.slice A0 l0.length c0,.slice A1 l1.length c1] (GI.calls k _ _ l0 _ _ l1 true _ (ZR (Kd.Eab X.out HB.out)) Y.out (ZR (Kd.Eab u.out HB.out)) v.out ab.out) ?_;rintro e a0 ⟨rfl,hb⟩;refine ⟨_,rfl,?_⟩;replace d := ZA (Eac (ZH d) hb);replace i := ZA (Eac (ZH i) hb);replace HB := BS HB hb;have am : a0.cell? ⟨p,0,none⟩ = some (.int .i64 a2) := ZC i 0 rfl;have an := Ea i.out 0;have ao : a0.cell? ⟨j,0,none⟩ = some (.slice A1 l1.length c1) := ZC d 0 rfl;have ap := Ea d.out 0)|(go_at_call 62;(with_reducible refine (FB.calls a2 0 (l1.length : Int) true _ aE.out).mono ?_);rintro e w' ⟨rfl,⟨nd,rfl⟩⟩)|(go_at_call 105;(with_reducible refine (Fn.calls k _ _ l3 _ _ l4 false _ (ZR (Kd.Eab y.out (ZQ HB))) z.out (ZR (Kd.Eab Z.out (ZQ HB))) aa.out aX.out).mono ?_);rintro e bj ⟨rfl,hb⟩;replace d := ZA (Eac (ZH d) hb);replace i := ZA (Eac (ZH i) hb);replace HB := BS HB hb))
   go_meet
   case rel => exact ⟨_,(true),ZG,H',⟨YO⟩,⟨ZH d⟩,⟨ZH i⟩,⟨ZQ HB⟩⟩
  replace H := YJ H;obtain ⟨D,bg,H⟩ := H;have H' := ZA H;clear H;have a1 := m.out;have a3 := n.out;have aq : w9.cell? ⟨j,0,none⟩ = some (.slice A1 l1.length c1) := ZC d 0 rfl;have ar := Ea d.out 0
  go_wp2_with (first|((with_reducible refine YG 61 ?_);refine YC (some 19) Tryz.func61 #[.slice A0 l0.length c0,.slice A1 l1.length c1] (GI.calls k _ _ l0 _ _ l1 true _ (ZR (Kd.Eab X.out HB.out)) Y.out (ZR (Kd.Eab u.out HB.out)) v.out ab.out) ?_;rintro e a4 ⟨rfl,hb⟩;refine ⟨_,rfl,?_⟩;replace d := ZA (Eac (ZH d) hb);replace i := ZA (Eac (ZH i) hb);replace HB := BS HB hb;have au : a4.cell? ⟨p,0,none⟩ = some (.int .i64 a2) := ZC i 0 rfl;have av := Ea i.out 0;have aw : a4.cell? ⟨j,0,none⟩ = some (.slice A1 l1.length c1) := ZC d 0 rfl;have ax := Ea d.out 0)|(go_at_call 62;(with_reducible refine (FB.calls a2 0 (l1.length : Int) true _ aE.out).mono ?_);rintro e w' ⟨rfl,⟨nd,rfl⟩⟩)|(go_at_call 105;(with_reducible refine (Fn.calls k _ _ l3 _ _ l4 true _ (ZR (Kd.Eab y.out (ZQ HB))) z.out (ZR (Kd.Eab Z.out (ZQ HB))) aa.out aX.out).mono ?_);rintro e bk ⟨rfl,hb⟩;replace d := ZA (Eac (ZH d) hb);replace i := ZA (Eac (ZH i) hb);replace HB := BS HB hb)|(go_at_call 62;(with_reducible refine (FB.calls a5 0 100 D _ bg.out).mono ?_);rintro e w' ⟨rfl,⟨nd,rfl⟩⟩))
  go_meet
  case rel => exact ⟨_,(!D),ZG,H',⟨YO⟩,⟨ZH d⟩,⟨ZH i⟩,⟨ZQ HB⟩⟩
 case rest =>
  clear aD;obtain ⟨kq,q,rfl,HA,bl,d,i,HB⟩ := hcut;cases kq with
  | zero => exact absurd HA.out (by simp [FS.j0])
  | succ E =>
   have H := HA.out;clear HA;simp only [FS.j0] at H;by_cases ay : q = true
   ·subst ay;rw [if_pos rfl] at H;simp only [Option.some.injEq,Prod.mk.injEq] at H;obtain ⟨rfl,rfl⟩ := H;go_wp2;go_ret2;exact ⟨YR,ZQ HB⟩
   replace ay := Bool.eq_false_iff.mpr ay;subst ay;rw [if_neg (show ¬ (false = true) by decide)] at H;by_cases s : (l3.length : Int) = 0
   ·rw [if_pos s] at H;have G : ((l3.length : Int) == 0) = true := beq_iff_eq.mpr s;have I : ((l3.length : Int) != 0) = false := bne_eq_false_iff_eq.mpr s;clear s;simp only [Option.some.injEq,Prod.mk.injEq] at H;obtain ⟨rfl,rfl⟩ := H;go_wp2;go_ret2;exact ⟨YR,ZQ HB⟩
   rw [if_neg s] at H;have G : ((l3.length : Int) == 0) = false := beq_eq_false_iff_ne.mpr s;have I : ((l3.length : Int) != 0) = true := bne_iff_ne.mpr s;have a6 : ¬ (l3 = []) := fun h_ => s (by rw [h_];rfl)
   replace H := YJ H;obtain ⟨bh,aF,H⟩ := H;replace H := YF H;rcases H with ⟨rfl,H⟩|⟨rfl,H⟩;rotate_left
   ·simp only [Option.some.injEq,Prod.mk.injEq] at H;obtain ⟨rfl,rfl⟩ := H
    go_wp2_with (first|(go_at_call 113;(with_reducible refine (FC.calls E _ _ l3 A1 c1 l1 a2 false _ (ZR (Kd.Eab y.out HB.out)) z.out (ZR (Kd.Eab u.out HB.out)) v.out ((Ebo (cs := #[.slice A1 l1.length c1]) (t := 25) (ZH d) 0).trans rfl) ((Ebo (cs := #[.int .i64 a2]) (t := 3) (ZH i) 0).trans rfl) aF.out).mono ?_);rintro e bm ⟨rfl,hb⟩;replace d := ZA (Eac (ZH d) hb);replace i := ZA (Eac (ZH i) hb);replace HB := BS HB hb))
    go_ret2;exact ⟨YR,ZQ HB⟩
   replace H := YJ H;obtain ⟨⟨J,M,U⟩,a7,H⟩ := H;try dsimp only at H
   replace H := YI H;rcases H with ⟨V,H⟩|⟨V,H⟩;rotate_left
   ·simp only [Option.some.injEq,Prod.mk.injEq] at H;obtain ⟨rfl,rfl⟩ := H
    go_wp2_with (first|(go_at_call 113;(with_reducible refine (FC.calls E _ _ l3 A1 c1 l1 a2 true _ (ZR (Kd.Eab y.out HB.out)) z.out (ZR (Kd.Eab u.out HB.out)) v.out ((Ebo (cs := #[.slice A1 l1.length c1]) (t := 25) (ZH d) 0).trans rfl) ((Ebo (cs := #[.int .i64 a2]) (t := 3) (ZH i) 0).trans rfl) aF.out).mono ?_);rintro e bn ⟨rfl,hb⟩;replace d := ZA (Eac (ZH d) hb);replace i := ZA (Eac (ZH i) hb);replace HB := BS HB hb)|((with_reducible refine YG 46 ?_);refine YC (some 51) Tryz.func46 #[.slice A3 l3.length c3,.slice A4 l4.length c4] (FT.calls E _ _ l3 _ _ l4 J M U _ (ZR (Kd.Eab y.out HB.out)) z.out (ZR (Kd.Eab Z.out HB.out)) aa.out a7.out) ?_;rintro e bo ⟨rfl,hb⟩;refine ⟨_,rfl,?_⟩;replace d := ZA (Eac (ZH d) hb);replace i := ZA (Eac (ZH i) hb);replace HB := BS HB hb))
    go_ret2;exact ⟨YR,ZQ HB⟩
   simp only [Option.some.injEq,Prod.mk.injEq] at H;obtain ⟨rfl,rfl⟩ := H
   go_wp2_with (first|(go_at_call 113;(with_reducible refine (FC.calls E _ _ l3 A1 c1 l1 a2 true _ (ZR (Kd.Eab y.out HB.out)) z.out (ZR (Kd.Eab u.out HB.out)) v.out ((Ebo (cs := #[.slice A1 l1.length c1]) (t := 25) (ZH d) 0).trans rfl) ((Ebo (cs := #[.int .i64 a2]) (t := 3) (ZH i) 0).trans rfl) aF.out).mono ?_);rintro e bp ⟨rfl,hb⟩;replace d := ZA (Eac (ZH d) hb);replace i := ZA (Eac (ZH i) hb);replace HB := BS HB hb)|((with_reducible refine YG 46 ?_);refine YC (some 51) Tryz.func46 #[.slice A3 l3.length c3,.slice A4 l4.length c4] (FT.calls E _ _ l3 _ _ l4 J M U _ (ZR (Kd.Eab y.out HB.out)) z.out (ZR (Kd.Eab Z.out HB.out)) aa.out a7.out) ?_;rintro e a8 ⟨rfl,hb⟩;refine ⟨_,rfl,?_⟩;replace d := ZA (Eac (ZH d) hb);replace i := ZA (Eac (ZH i) hb);replace HB := BS HB hb;have a9 := n.out;have ba := m.out;have az : a8.cell? ⟨p,0,none⟩ = some (.int .i64 a2) := ZC i 0 rfl;have aA := Ea i.out 0;have aB : a8.cell? ⟨j,0,none⟩ = some (.slice A1 l1.length c1) := ZC d 0 rfl;have aC := Ea d.out 0))
   go_ret2;exact ⟨YR,ZQ HB⟩
def GH.l0 : Nat -> List Int -> List Int -> Int -> Int -> Option (Bool)
 | 0,_,_,_,_ => none
 | k + 1,x0,x8,x9,d => if d < x9 then (if 0 <= d then (if d < (x8.length : Int) then ((Fs.f k x0 (rd x8 d)).bind fun g => (if g = true then (GH.l0 k x0 x8 x9 (wrap64 (d + 1))) else (some false))) else (none)) else (none)) else (some true)
def GH.f (k : Nat) (l0 : List Int) (aa : Int) (d : List Int) : Option (Bool) := GH.l0 k l0 d (d.length : Int) 0
theorem GH.calls (k : Nat) (A0 : Option Addr) (c0 : Nat) (l0 : List Int) (o : Int) (p : Option Addr) (q : Nat) (g : List Int) (r : Bool) (w : World) (E : Kd.C (Kd.int .i64) w A0 l0.length l0) (G : l0.length <= c0) (t : Kd.C (Kd.int .i64) w p g.length g) (u : g.length <= q) (h : GH.f k l0 o g = some r) :
  Calls Tryz.prog 81 #[.slice A0 l0.length c0,.agg #[.int .i64 o,.slice p g.length q]] w fun e w' => e = .returned (.bool r) ∧ Below w.heap.size w w' := by
 have ah := Tryz.underlying30;have I := ZA E;have J := ZA G;clear E G;have v := ZA t;have ae := ZA u;clear t u;have HB := ZA (Below.refl w.heap.size w);have H : (GH.l0 k l0 g (g.length : Int) 0) = some r := h;clear h;have H' := ZA H;clear H;go_enter Tryz.func81,Tryz.ntmps81
 go_wp2_with (first|((with_reducible refine Ead (N := 3) rfl ?_);refine ZE 3 #[.int .i64 o,.slice p g.length q] 30 ?_;intro s hg w3 hbox hb;have j := ZA (hbox);have af := YQ hg HB;have ag := YQ hg HB;replace HB := BS HB hb;clear hb hbox hg;have aa : w3.cell? ⟨s,0,none⟩ = some (.int .i64 o) := ZC j 0 rfl;have ab : w3.cell? ⟨s,1,none⟩ = some (.slice p g.length q) := ZC j 1 rfl;have ac := Ea j.out 0;have ad := Ea j.out 1))
 go_loopg [10] k (fun kq U w' => ∃ (d : Int),U = .int .i64 d ∧ Aside0 (GH.l0 kq l0 g (g.length : Int) d = some r) ∧ Aside0 (kq <= k) ∧ Aside0 (w'.heap[s]? = some (.cells #[.int .i64 o,(.slice p g.length q)] 30 (0,0))) ∧ Aside0 (Below w.heap.size w w'))
 case atStart => exact ⟨(0),ZG,H',⟨Nat.le_refl _⟩,⟨ZH j⟩,⟨ZQ HB⟩⟩
 case round =>
  clear H';obtain ⟨d,rfl,HA,M,j,HB⟩ := hrel;cases gk with
  | zero => exact absurd HA.out (by simp [GH.l0])
  | succ k1 =>
   have H := HA.out;clear HA;simp only [GH.l0] at H;replace H := YI H;rcases H with ⟨D,H⟩|⟨D,H⟩;rotate_left
   ·obtain rfl := Option.some.inj H;go_wp2;go_ret;exact ⟨YR,ZQ HB⟩
   replace H := YN H;obtain ⟨ai,H⟩ := H;replace H := YN H;obtain ⟨aj,H⟩ := H;replace H := YJ H;obtain ⟨ak,A8,H⟩ := H;replace H := YF H;rcases H with ⟨rfl,H⟩|⟨rfl,H⟩;rotate_left
   ·obtain rfl := Option.some.inj H;have m : 0 <= (d : Int) := ZD;have n : d < (g.length : Int) := ZD;obtain ⟨z,y,i⟩ := Kd.Ean v.out d m n;cases y;replace i := ZX HB i;replace m := eq_true m;replace n := eq_true n
    go_wp2_with (first|((with_reducible refine YG 72 ?_);refine YC (some 16) Tryz.func72 #[.slice A0 l0.length c0,.int .i64 (rd g d)] (Fs.calls k1 _ _ l0 (rd g d) false _ (ZR (Kd.Eab I.out HB.out)) J.out A8.out) ?_;rintro e w' ⟨rfl,⟨nd,rfl⟩⟩;refine ⟨_,rfl,?_⟩))
    go_ret;exact ⟨YR,ZQ HB⟩
   have H' := ZA H;clear H;have m : 0 <= (d : Int) := ZD;have n : d < (g.length : Int) := ZD;obtain ⟨z,y,i⟩ := Kd.Ean v.out d m n;cases y;replace i := ZX HB i;replace m := eq_true m;replace n := eq_true n
   go_wp2_with (first|((with_reducible refine YG 72 ?_);refine YC (some 16) Tryz.func72 #[.slice A0 l0.length c0,.int .i64 (rd g d)] (Fs.calls k1 _ _ l0 (rd g d) true _ (ZR (Kd.Eab I.out HB.out)) J.out A8.out) ?_;rintro e w' ⟨rfl,⟨nd,rfl⟩⟩;refine ⟨_,rfl,?_⟩))
   go_roundg k1
   case measure => have := M.out;omega
   case rel => exact ⟨(wrap64 (d + 1)),ZG,H',⟨by have := M.out;omega⟩,⟨ZH j⟩,⟨ZQ HB⟩⟩
mutual
def FA.j0 : Nat -> List (List Int) -> Int -> List (S30) -> List Int -> Int -> Bool -> Option (Bool × Bool)
 | 0,_,_,_,_,_,_ => none
 | k + 1,x1,x2,x3,x4,x5,d => if d = true then (some (false,false)) else (FA.l0 k x1 x2 x3 x4 x5 x3 (x3.length : Int) 0)
def FA.l0 : Nat -> List (List Int) -> Int -> List (S30) -> List Int -> Int -> List (S30) -> Int -> Int -> Option (Bool × Bool)
 | 0,_,_,_,_,_,_,_,_ => none
 | k + 1,x1,x2,x3,x4,x5,i,n,d => if d < n then (if 0 <= d then (if d < (i.length : Int) then ((Fp.f k x1 x2).bind fun j => ((GH.f k j ((rd_T30 i d).f0) ((rd_T30 i d).f1)).bind fun m => (if m = true then (FA.l0 k x1 x2 x3 x4 x5 i n (wrap64 (d + 1))) else (some (false,false))))) else (none)) else (none)) else ((FX.f k x3 x4).bind fun g => (if (wrap64 (100 * g.1)) >= (wrap64 (x5 * (x3.length : Int))) then (some (decide (x2 < (x1.length : Int)),true)) else (some (false,true))))
end
def FA.f (k : Nat) (l0 : List (S41)) (l1 : List (List Int)) (a2 : Int) (l3 : List (S30)) (l4 : List Int) (a5 : Int) : Option (Bool × Bool) := (GC.f k l0 l1 a2).bind fun d => (if d = true then ((Fk.f k l3 l4).bind fun g => (if g = true then ((FU.f a5 0 100).bind fun i => (if i = true then (FA.j0 k l1 a2 l3 l4 a5 ((l3.length : Int) == 0)) else (FA.j0 k l1 a2 l3 l4 a5 true))) else (FA.j0 k l1 a2 l3 l4 a5 true))) else (FA.j0 k l1 a2 l3 l4 a5 true))
theorem FA.calls (k : Nat) (A0 : Option Addr) (c0 : Nat) (l0 : List (S41)) (A1 : Option Addr) (c1 : Nat) (l1 : List (List Int)) (a2 : Int) (A3 : Option Addr) (c3 : Nat) (l3 : List (S30)) (A4 : Option Addr) (c4 : Nat) (l4 : List Int) (a5 : Int) (r1 : Bool) (r2 : Bool) (w : World) (aO : Kd.C k41 w A0 l0.length l0) (aP : l0.length <= c0) (aQ : Kd.C (Kd.slice 3 (Kd.int .i64)) w A1 l1.length l1) (aR : l1.length <= c1) (aS : Kd.C k30 w A3 l3.length l3) (aT : l3.length <= c3) (aU : Kd.C (Kd.int .i64) w A4 l4.length l4) (aV : l4.length <= c4) (h : FA.f k l0 l1 a2 l3 l4 a5 = some (r1,r2)) :
  Calls Tryz.prog 55 #[.slice A0 l0.length c0,.slice A1 l1.length c1,.int .i64 a2,.slice A3 l3.length c3,.slice A4 l4.length c4,.int .i64 a5] w fun e w' => e = .returned (.tuple #[.bool r1,.bool r2]) ∧ Below w.heap.size w w' := by
 have a7 := Tryz.underlying30;have ap := ZA aO;have aq := ZA aP;clear aO aP;have Y := ZA aQ;have Z := ZA aR;clear aQ aR;have J := ZA aS;have ab := ZA aT;clear aS aT;have ac := ZA aU;have ad := ZA aV;clear aU aV;have HB := ZA (Below.refl w.heap.size w);have H := h;clear h;unfold FA.f at H;have aD := ZA H;clear H;go_enter Tryz.func55,Tryz.ntmps55
 go_upto_region 1 with (fail)
 go_cut [38] (fun a8 wc => ∃ (kq : Nat) (G : Bool),a8 = .bool G ∧ Aside0 (FA.j0 kq l1 a2 l3 l4 a5 G = some (r1,r2)) ∧ Aside0 (kq <= k) ∧ Aside0 (Below w.heap.size w wc))
 case first =>
  have H := aD.out;clear aD;replace H := YJ H;obtain ⟨a9,A8,H⟩ := H;replace H := YF H;rcases H with ⟨rfl,H⟩|⟨rfl,H⟩;rotate_left
  ·have H' := ZA H;clear H
   go_wp2_with (first|((with_reducible refine YG 64 ?_);refine YC (some 21) Tryz.func64 #[.slice A0 l0.length c0,.slice A1 l1.length c1,.int .i64 a2] (GC.calls k _ _ l0 _ _ l1 a2 false _ (ZR (Kd.Eab ap.out HB.out)) aq.out (ZR (Kd.Eab Y.out HB.out)) Z.out A8.out) ?_;rintro e bg ⟨rfl,hb⟩;refine ⟨_,rfl,?_⟩;replace HB := BS HB hb))
   go_meet
   case rel => exact ⟨_,(true),ZG,H',⟨YO⟩,⟨ZQ HB⟩⟩
  replace H := YJ H;obtain ⟨ba,aE,H⟩ := H;replace H := YF H;rcases H with ⟨rfl,H⟩|⟨rfl,H⟩;rotate_left
  ·have H' := ZA H;clear H
   go_wp2_with (first|((with_reducible refine YG 64 ?_);refine YC (some 21) Tryz.func64 #[.slice A0 l0.length c0,.slice A1 l1.length c1,.int .i64 a2] (GC.calls k _ _ l0 _ _ l1 a2 true _ (ZR (Kd.Eab ap.out HB.out)) aq.out (ZR (Kd.Eab Y.out HB.out)) Z.out A8.out) ?_;rintro e bh ⟨rfl,hb⟩;refine ⟨_,rfl,?_⟩;replace HB := BS HB hb)|(go_at_call 107;(with_reducible refine (Fk.calls k _ _ l3 _ _ l4 false _ (ZR (Kd.Eab J.out HB.out)) ab.out (ZR (Kd.Eab ac.out HB.out)) ad.out aE.out).mono ?_);rintro e bi ⟨rfl,hb⟩;replace HB := BS HB hb))
   go_meet
   case rel => exact ⟨_,(true),ZG,H',⟨YO⟩,⟨ZQ HB⟩⟩
  replace H := YJ H;obtain ⟨aF,aW,H⟩ := H;by_cases ar : aF = true
  ·subst ar;rw [if_pos rfl] at H;have H' := ZA H;clear H
   go_wp2_with (first|((with_reducible refine YG 64 ?_);refine YC (some 21) Tryz.func64 #[.slice A0 l0.length c0,.slice A1 l1.length c1,.int .i64 a2] (GC.calls k _ _ l0 _ _ l1 a2 true _ (ZR (Kd.Eab ap.out HB.out)) aq.out (ZR (Kd.Eab Y.out HB.out)) Z.out A8.out) ?_;rintro e bj ⟨rfl,hb⟩;refine ⟨_,rfl,?_⟩;replace HB := BS HB hb)|(go_at_call 107;(with_reducible refine (Fk.calls k _ _ l3 _ _ l4 true _ (ZR (Kd.Eab J.out HB.out)) ab.out (ZR (Kd.Eab ac.out HB.out)) ad.out aE.out).mono ?_);rintro e bk ⟨rfl,hb⟩;replace HB := BS HB hb)|(go_at_call 65;(with_reducible refine (FU.calls a5 0 100 true _ aW.out).mono ?_);rintro e w' ⟨rfl,⟨nd,rfl⟩⟩))
   go_meet
   case rel => exact ⟨_,(((l3.length : Int) == 0)),ZG,H',⟨YO⟩,⟨ZQ HB⟩⟩
  replace ar := Bool.eq_false_iff.mpr ar;subst ar;rw [if_neg (show ¬ (false = true) by decide)] at H;have H' := ZA H;clear H
  go_wp2_with (first|((with_reducible refine YG 64 ?_);refine YC (some 21) Tryz.func64 #[.slice A0 l0.length c0,.slice A1 l1.length c1,.int .i64 a2] (GC.calls k _ _ l0 _ _ l1 a2 true _ (ZR (Kd.Eab ap.out HB.out)) aq.out (ZR (Kd.Eab Y.out HB.out)) Z.out A8.out) ?_;rintro e bl ⟨rfl,hb⟩;refine ⟨_,rfl,?_⟩;replace HB := BS HB hb)|(go_at_call 107;(with_reducible refine (Fk.calls k _ _ l3 _ _ l4 true _ (ZR (Kd.Eab J.out HB.out)) ab.out (ZR (Kd.Eab ac.out HB.out)) ad.out aE.out).mono ?_);rintro e bm ⟨rfl,hb⟩;replace HB := BS HB hb)|(go_at_call 65;(with_reducible refine (FU.calls a5 0 100 false _ aW.out).mono ?_);rintro e w' ⟨rfl,⟨nd,rfl⟩⟩))
  go_meet
  case rel => exact ⟨_,(true),ZG,H',⟨YO⟩,⟨ZQ HB⟩⟩
 case rest =>
  clear aD;obtain ⟨kq,G,rfl,HA,aX,HB⟩ := hcut;cases kq with
  | zero => exact absurd HA.out (by simp [FA.j0])
  | succ aY =>
   have H := HA.out;clear HA;simp only [FA.j0] at H;by_cases au : G = true
   ·subst au;rw [if_pos rfl] at H;simp only [Option.some.injEq,Prod.mk.injEq] at H;obtain ⟨rfl,rfl⟩ := H;go_wp2;go_ret2;exact ⟨YR,ZQ HB⟩
   replace au := Bool.eq_false_iff.mpr au;subst au;rw [if_neg (show ¬ (false = true) by decide)] at H;have H' := ZA H;clear H;go_wp2
   go_loopg [41] aY (fun kq bb w' => ∃ (g : Int),bb = .int .i64 g ∧ Aside0 (FA.l0 kq l1 a2 l3 l4 a5 l3 (l3.length : Int) g = some (r1,r2)) ∧ Aside0 (kq <= aY) ∧ Aside0 (Below w.heap.size w w'))
   case atStart => exact ⟨(0),ZG,H',⟨Nat.le_refl _⟩,⟨ZQ HB⟩⟩
   case round =>
    clear H';obtain ⟨g,rfl,HA,aZ,HB⟩ := hrel;cases gk with
    | zero => exact absurd HA.out (by simp [FA.l0])
    | succ k2 =>
     have H := HA.out;clear HA;simp only [FA.l0] at H;replace H := YI H;rcases H with ⟨ae,H⟩|⟨ae,H⟩;rotate_left
     ·replace H := ZI H;obtain ⟨⟨M,af⟩,ag,H⟩ := H;try dsimp only at H
      have a0 := ZA ag;clear ag;by_cases aa : (wrap64 (100 * M)) >= (wrap64 (a5 * (l3.length : Int)))
      ·rw [if_pos aa] at H;have ah := decide_eq_true aa;clear aa;simp only [Option.some.injEq,Prod.mk.injEq] at H;obtain ⟨rfl,rfl⟩ := H
       go_wp2_with (first|((with_reducible refine YG 108 ?_);refine YC (some 55) Tryz.func108 #[.slice A3 l3.length c3,.slice A4 l4.length c4] (FX.calls k2 _ _ l3 _ _ l4 M af _ (ZR (Kd.Eab J.out HB.out)) ab.out (ZR (Kd.Eab ac.out HB.out)) ad.out a0.out) ?_;rintro e bn ⟨rfl,hb⟩;refine ⟨_,rfl,?_⟩;replace HB := BS HB hb))
       go_ret2;exact ⟨YR,ZQ HB⟩
      rw [if_neg aa] at H;have ah := decide_eq_false aa;clear aa;simp only [Option.some.injEq,Prod.mk.injEq] at H;obtain ⟨rfl,rfl⟩ := H
      go_wp2_with (first|((with_reducible refine YG 108 ?_);refine YC (some 55) Tryz.func108 #[.slice A3 l3.length c3,.slice A4 l4.length c4] (FX.calls k2 _ _ l3 _ _ l4 M af _ (ZR (Kd.Eab J.out HB.out)) ab.out (ZR (Kd.Eab ac.out HB.out)) ad.out a0.out) ?_;rintro e bo ⟨rfl,hb⟩;refine ⟨_,rfl,?_⟩;replace HB := BS HB hb))
      go_ret2;exact ⟨YR,ZQ HB⟩
     replace H := YN H;obtain ⟨a1,H⟩ := H;replace H := YN H;obtain ⟨a3,H⟩ := H;replace H := YJ H;obtain ⟨I,a4,H⟩ := H;replace H := YJ H;obtain ⟨bc,a6,H⟩ := H;replace H := YF H;rcases H with ⟨rfl,H⟩|⟨rfl,H⟩;rotate_left
     ·simp only [Option.some.injEq,Prod.mk.injEq] at H;obtain ⟨rfl,rfl⟩ := H;have D : 0 <= (g : Int) := ZD;have E : g < (l3.length : Int) := ZD;obtain ⟨ai,m,o,U,q,s,t,u⟩ := at_T30 J.out g D E;cases U;replace q := ZX HB q;replace s := ZX HB s;have y := ZA u;have z := ZA t;clear u t;replace D := eq_true D;replace E := eq_true E
      try go_wp2_with (first|((with_reducible refine Ead (N := 15) rfl ?_);(try (refine Eau (by rfl) ?_;dsimp only));refine ZE 15 #[.int .i64 0,.slice none 0 0] 30 ?_;intro j hg aj hbox hb;have d := ZA (hbox);have ak := YQ hg HB;have al := YQ hg HB;replace HB := BS HB hb;clear hb hbox hg;have av : aj.cell? ⟨j,0,none⟩ = some (.int .i64 0) := ZC d 0 rfl;have aw : aj.cell? ⟨j,1,none⟩ = some (.slice none 0 0) := ZC d 1 rfl;have ax := Ea d.out 0;have ay := Ea d.out 1))
      have V : Aside0 (((aj.setCell ⟨j,0,none⟩ (.int .i64 ((rd_T30 l3 g).f0))).setCell ⟨j,1,none⟩ (.slice m ((rd_T30 l3 g).f1).length o)).heap[j]? = some (.cells #[.int .i64 ((rd_T30 l3 g).f0),.slice m ((rd_T30 l3 g).f1).length o] 30 (0,0))) := ⟨by refine ZY ?_;refine Eae (cs := #[.int .i64 ((rd_T30 l3 g).f0),.slice none 0 0]) ?_ 1 _ rfl;refine ZY ?_;refine Eae (cs := #[.int .i64 0,.slice none 0 0]) ?_ 0 _ rfl;refine ZY ?_;exact d.out⟩;have X : Aside0 (Below w.heap.size w ((aj.setCell ⟨j,0,none⟩ (.int .i64 ((rd_T30 l3 g).f0))).setCell ⟨j,1,none⟩ (.slice m ((rd_T30 l3 g).f1).length o))) := ⟨ZQ HB⟩;generalize ((aj.setCell ⟨j,0,none⟩ (.int .i64 ((rd_T30 l3 g).f0))).setCell ⟨j,1,none⟩ (.slice m ((rd_T30 l3 g).f1).length o)) = bd at V X ⊢;have d := V;have HB := X;clear V X;replace d := ZA (Ear d.out);replace HB := ZA (Eaf HB.out);refine Ebe (n := 6) (S := fun w' => w'.cell? ⟨j,0,none⟩ = some (.int .i64 ((rd_T30 l3 g).f0)) ∧ w'.cell? ⟨j,1,none⟩ = some (.slice m ((rd_T30 l3 g).f1).length o)) (ds := []) (ZL 6 0) (by kernel_rfl) rfl rfl ⟨ZC d 0 rfl,ZC d 1 rfl⟩ (fun hHeld => ?_);generalize bd.drew = bp at d HB hHeld ⊢;refine Ecp (i := 0) (N := some 45) (v := ?_) (a' := ?_) (ZL 6 1) rfl rfl (by kernel_rfl) (fun _ _ _ h => h) (Or.inl ⟨by rfl,?_⟩) ?_ ?_;rotate_left
      ·intro w'
       go_simp
       with_reducible rfl
      rotate_left
      ·simp only [Act.put,zuA,zuB,zuC,Eay,Eba];rfl
      refine Ecp (i := 1) (N := some 46) (v := ?_) (a' := ?_) (ZL 6 3) rfl rfl (by kernel_rfl) (fun _ _ _ h => h) (Or.inl ⟨by rfl,?_⟩) ?_ ?_;rotate_left
      ·intro w'
       go_simp
       with_reducible rfl
      rotate_left
      ·simp only [Act.put,zuA,zuB,zuC,Eay,Eba];rfl
      refine Edy (i := 3) (N := some 48) (v := ?_) (a' := ?_) (ZL 6 11) rfl rfl (by kernel_rfl) (fun _ _ _ h => h) (Or.inl ⟨by rfl,?_⟩) hHeld ?_ ?_;rotate_left
      ·rintro w' ⟨s0,s1⟩
       go_simp
       with_reducible rfl
      rotate_left
      ·simp only [Act.put,zuA,zuB,zuC,Eay,Eba];rfl
      refine one_ (i := 2) (N := some 47) (ZL 6 15) rfl rfl (by kernel_rfl) (by decide) (fun K hK => ?_);refine YS Tryz.func67 #[.slice A1 l1.length c1,.int .i64 a2] ?_
      with_reducible refine (Fp.calls k2 _ _ l1 a2 I _ (ZR (Kd.Eab Y.out HB.out)) Z.out a4.out).mono ?_
      rintro e bq ⟨aG,rfl,aH,hb⟩;refine ⟨_,rfl,?_⟩;have p := ZA (Kd.Edn (Kd.Eax (ok' := fun k_ => k_ ≠ j) aH (fun k_ hk_ => (Kd.Efi (ZH d) k_ hk_))) (SZ HB));replace d := ZA (Eac (ZH d) hb);replace HB := BS HB hb;obtain ⟨aI,aJ,am⟩ := Kd.Ecz p.out
      (first|subst am|(injection am with f1_ f2_ f3_;have aK := f1_.symm;have aL := f3_.symm;clear f1_ f2_ f3_;subst aK;subst aL))
      refine hK.out _ _ ⟨ZC d 0 rfl,ZC d 1 rfl⟩ (fun hHeld => ?_);clear hK K;refine YZ (some 47) ?_;refine one_ (i := 4) (N := some 49) (ZL 6 31) rfl rfl (by kernel_rfl) (by decide) (fun K hK => ?_);refine YS Tryz.func81 #[.slice aI I.length aJ,.agg #[.int .i64 ((rd_T30 l3 g).f0),.slice m ((rd_T30 l3 g).f1).length o]] ?_
      with_reducible refine (GH.calls k2 _ _ I ((rd_T30 l3 g).f0) _ _ ((rd_T30 l3 g).f1) false _ (WV p) (CV p) (ZR (Kd.Eab y.out HB.out)) z.out a6.out).mono ?_
      rintro e br ⟨rfl,hb⟩;refine ⟨_,rfl,?_⟩;replace p := ZBV p hb;replace d := ZA (Eac (ZH d) hb);replace HB := BS HB hb;refine hK.out _ _ ⟨ZC d 0 rfl,ZC d 1 rfl⟩ (fun hHeld => ?_);clear hK K;refine YZ (some 49) ?_;refine Ecp (i := 5) (N := some 50) (v := ?_) (a' := ?_) (ZL 6 63) rfl rfl (by kernel_rfl) (fun _ _ _ h => h) (Or.inl ⟨by rfl,?_⟩) ?_ ?_;rotate_left
      ·intro w'
       go_simp
       with_reducible rfl
      rotate_left
      ·simp only [Act.put,zuA,zuB,zuC,Eay,Eba];rfl
      refine Ecb (by kernel_rfl) ?_
      try go_wp2
      go_ret2;exact ⟨YR,ZQ HB⟩
     have H' := ZA H;clear H;have D : 0 <= (g : Int) := ZD;have E : g < (l3.length : Int) := ZD;obtain ⟨ai,m,o,U,q,s,t,u⟩ := at_T30 J.out g D E;cases U;replace q := ZX HB q;replace s := ZX HB s;have y := ZA u;have z := ZA t;clear u t;replace D := eq_true D;replace E := eq_true E
     try go_wp2_with (first|((with_reducible refine Ead (N := 15) rfl ?_);(try (refine Eau (by rfl) ?_;dsimp only));refine ZE 15 #[.int .i64 0,.slice none 0 0] 30 ?_;intro j hg an hbox hb;have d := ZA (hbox);have ak := YQ hg HB;have al := YQ hg HB;replace HB := BS HB hb;clear hb hbox hg;have az : an.cell? ⟨j,0,none⟩ = some (.int .i64 0) := ZC d 0 rfl;have aA : an.cell? ⟨j,1,none⟩ = some (.slice none 0 0) := ZC d 1 rfl;have aB := Ea d.out 0;have aC := Ea d.out 1))
     have V : Aside0 (((an.setCell ⟨j,0,none⟩ (.int .i64 ((rd_T30 l3 g).f0))).setCell ⟨j,1,none⟩ (.slice m ((rd_T30 l3 g).f1).length o)).heap[j]? = some (.cells #[.int .i64 ((rd_T30 l3 g).f0),.slice m ((rd_T30 l3 g).f1).length o] 30 (0,0))) := ⟨by refine ZY ?_;refine Eae (cs := #[.int .i64 ((rd_T30 l3 g).f0),.slice none 0 0]) ?_ 1 _ rfl;refine ZY ?_;refine Eae (cs := #[.int .i64 0,.slice none 0 0]) ?_ 0 _ rfl;refine ZY ?_;exact d.out⟩;have X : Aside0 (Below w.heap.size w ((an.setCell ⟨j,0,none⟩ (.int .i64 ((rd_T30 l3 g).f0))).setCell ⟨j,1,none⟩ (.slice m ((rd_T30 l3 g).f1).length o))) := ⟨ZQ HB⟩;generalize ((an.setCell ⟨j,0,none⟩ (.int .i64 ((rd_T30 l3 g).f0))).setCell ⟨j,1,none⟩ (.slice m ((rd_T30 l3 g).f1).length o)) = bf at V X ⊢;have d := V;have HB := X;clear V X;replace d := ZA (Ear d.out);replace HB := ZA (Eaf HB.out);refine Ebe (n := 6) (S := fun w' => w'.cell? ⟨j,0,none⟩ = some (.int .i64 ((rd_T30 l3 g).f0)) ∧ w'.cell? ⟨j,1,none⟩ = some (.slice m ((rd_T30 l3 g).f1).length o)) (ds := []) (ZL 6 0) (by kernel_rfl) rfl rfl ⟨ZC d 0 rfl,ZC d 1 rfl⟩ (fun hHeld => ?_);generalize bf.drew = bs at d HB hHeld ⊢;refine Ecp (i := 0) (N := some 45) (v := ?_) (a' := ?_) (ZL 6 1) rfl rfl (by kernel_rfl) (fun _ _ _ h => h) (Or.inl ⟨by rfl,?_⟩) ?_ ?_;rotate_left
     ·intro w'
      go_simp
      with_reducible rfl
     rotate_left
     ·simp only [Act.put,zuA,zuB,zuC,Eay,Eba];rfl
     refine Ecp (i := 1) (N := some 46) (v := ?_) (a' := ?_) (ZL 6 3) rfl rfl (by kernel_rfl) (fun _ _ _ h => h) (Or.inl ⟨by rfl,?_⟩) ?_ ?_;rotate_left
     ·intro w'
      go_simp
      with_reducible rfl
     rotate_left
     ·simp only [Act.put,zuA,zuB,zuC,Eay,Eba];rfl
     refine Edy (i := 3) (N := some 48) (v := ?_) (a' := ?_) (ZL 6 11) rfl rfl (by kernel_rfl) (fun _ _ _ h => h) (Or.inl ⟨by rfl,?_⟩) hHeld ?_ ?_;rotate_left
     ·rintro w' ⟨s0,s1⟩
      go_simp
      with_reducible rfl
     rotate_left
     ·simp only [Act.put,zuA,zuB,zuC,Eay,Eba];rfl
     refine one_ (i := 2) (N := some 47) (ZL 6 15) rfl rfl (by kernel_rfl) (by decide) (fun K hK => ?_);refine YS Tryz.func67 #[.slice A1 l1.length c1,.int .i64 a2] ?_
     with_reducible refine (Fp.calls k2 _ _ l1 a2 I _ (ZR (Kd.Eab Y.out HB.out)) Z.out a4.out).mono ?_
     rintro e bt ⟨aG,rfl,aH,hb⟩;refine ⟨_,rfl,?_⟩;have p := ZA (Kd.Edn (Kd.Eax (ok' := fun k_ => k_ ≠ j) aH (fun k_ hk_ => (Kd.Efi (ZH d) k_ hk_))) (SZ HB));replace d := ZA (Eac (ZH d) hb);replace HB := BS HB hb;obtain ⟨aM,aN,ao⟩ := Kd.Ecz p.out
     (first|subst ao|(injection ao with f1_ f2_ f3_;have aK := f1_.symm;have aL := f3_.symm;clear f1_ f2_ f3_;subst aK;subst aL))
     refine hK.out _ _ ⟨ZC d 0 rfl,ZC d 1 rfl⟩ (fun hHeld => ?_);clear hK K;refine YZ (some 47) ?_;refine one_ (i := 4) (N := some 49) (ZL 6 31) rfl rfl (by kernel_rfl) (by decide) (fun K hK => ?_);refine YS Tryz.func81 #[.slice aM I.length aN,.agg #[.int .i64 ((rd_T30 l3 g).f0),.slice m ((rd_T30 l3 g).f1).length o]] ?_
     with_reducible refine (GH.calls k2 _ _ I ((rd_T30 l3 g).f0) _ _ ((rd_T30 l3 g).f1) true _ (WV p) (CV p) (ZR (Kd.Eab y.out HB.out)) z.out a6.out).mono ?_
     rintro e bu ⟨rfl,hb⟩;refine ⟨_,rfl,?_⟩;replace p := ZBV p hb;replace d := ZA (Eac (ZH d) hb);replace HB := BS HB hb;refine hK.out _ _ ⟨ZC d 0 rfl,ZC d 1 rfl⟩ (fun hHeld => ?_);clear hK K;refine YZ (some 49) ?_;refine Ecp (i := 5) (N := some 50) (v := ?_) (a' := ?_) (ZL 6 63) rfl rfl (by kernel_rfl) (fun _ _ _ h => h) (Or.inl ⟨by rfl,?_⟩) ?_ ?_;rotate_left
     ·intro w'
      go_simp
      with_reducible rfl
     rotate_left
     ·simp only [Act.put,zuA,zuB,zuC,Eay,Eba];rfl
     refine Ecb (by kernel_rfl) ?_
     try go_wp2
     go_roundg k2
     case measure => have := aX.out;have := aZ.out;omega
     case rel => exact ⟨(wrap64 (g + 1)),ZG,H',⟨by have := aX.out;have := aZ.out;omega⟩,⟨ZQ HB⟩⟩
def GV.f (m : List Int) (n : Int) (o : Int) (l1 : List (S41)) : Option (Int × Int × Int) := (Fb.f m n o (wrap64 ((l1.length : Int) + 1))).bind fun d => ((Fb.f m d.2.1 d.2.2 (wrap64 ((l1.length : Int) + 1))).bind fun g => ((Fd.f m g.2.1 g.2.2 (([0,(l1.length : Int),(-1)] : List Int))).bind fun i => ((Fd.f m i.2.1 i.2.2 (([0,d.1,g.1,wrap64 ((l1.length : Int) - 1),i.1] : List Int))).bind fun j => (some (j.1,j.2.1,j.2.2)))))
theorem GV.calls (g : Nat) (j : List Int) (E : Int) (G : Int) (A1 : Option Addr) (c1 : Nat) (l1 : List (S41)) (r1 : Int) (r2 : Int) (r3 : Int) (w0 w : World) (hI : IsS82 w0 w g j E G) (hB : Below w0.heap.size w0 w) (ak : ∀ W_,Eaa w W_ g none -> Kd.C k41 W_ A1 l1.length l1) (al : l1.length <= c1) (h : GV.f j E G l1 = some (r1,r2,r3)) :
  Calls Tryz.prog 59 #[.pointer (some ⟨g,0,none⟩),.slice A1 l1.length c1] w fun e w' => e = .returned (.int .i64 r1) ∧ IsS82 w0 w' g j r2 r3 ∧ Below w0.heap.size w0 w' ∧ Eaa w w' g none := by
 have ao := ZA ak;have ap := ZA al;clear ak al;have n := ZA hI;have HK := ZA (Eaa.refl w g none);have HL := ZA hB.size;clear hI;have aq := ZA hB.size;have HB := ZA hB;clear hB;have H := h;clear h;unfold GV.f at H;replace H := YJ H;obtain ⟨⟨o,Z,aa⟩,A3,H⟩ := H;try dsimp only at H
 replace H := YJ H;obtain ⟨⟨p,I,J⟩,A4,H⟩ := H;try dsimp only at H
 obtain ⟨U,t⟩ : ∃ y_ : List Int,y_ = (([0,(l1.length : Int),(-1)] : List Int)) := ⟨_,rfl⟩;replace H : ((Fd.f j I J U).bind fun u => ((Fd.f j u.2.1 u.2.2 (([0,o,p,wrap64 ((l1.length : Int) - 1),u.1] : List Int))).bind fun i => (some (i.1,i.2.1,i.2.2)))) = some (r1,r2,r3) := YH t H;have z := ZA t;clear t;replace H := YJ H;obtain ⟨⟨q,V,X⟩,A5,H⟩ := H;try dsimp only at H
 obtain ⟨Y,v⟩ : ∃ y_ : List Int,y_ = (([0,o,p,wrap64 ((l1.length : Int) - 1),q] : List Int)) := ⟨_,rfl⟩;replace H : ((Fd.f j V X Y).bind fun i => (some (i.1,i.2.1,i.2.2))) = some (r1,r2,r3) := YH v H;have D := ZA v;clear v;replace H := YJ H;obtain ⟨⟨ab,ac,ad⟩,A6,H⟩ := H;try dsimp only at H
 simp only [Option.some.injEq,Prod.mk.injEq] at H;obtain ⟨rfl,rfl,rfl⟩ := H;go_enter Tryz.func59,Tryz.ntmps59
 go_wp2_with (first|((with_reducible refine YG 83 ?_);refine YC (some 10) Tryz.func83 #[.pointer (some ⟨g,0,none⟩),.int .i64 (wrap64 ((l1.length : Int) + 1))] (Fb.calls g j E G (wrap64 ((l1.length : Int) + 1)) o Z aa w0 _ (ZS n) (ZJ HB) A3.out) ?_;rintro e w7 ⟨rfl,hi,hb,hk⟩;refine ⟨_,rfl,?_⟩;replace HK := YK HK hk;replace HB := ZA (hb);replace n := ZA (hi))|((with_reducible refine YG 83 ?_);refine YC (some 15) Tryz.func83 #[.pointer (some ⟨g,0,none⟩),.int .i64 (wrap64 ((l1.length : Int) + 1))] (Fb.calls g j Z aa (wrap64 ((l1.length : Int) + 1)) p I J w0 _ (ZS n) (ZJ HB) A4.out) ?_;rintro e w8 ⟨rfl,hi,hb,hk⟩;refine ⟨_,rfl,?_⟩;replace HK := YK HK hk;replace HB := ZA (hb);replace n := ZA (hi))|((with_reducible refine Ead (N := 22) rfl ?_);refine Kd.Edj (Kd.int .i64) _ 3 ?hg (N := 22) ?hd (xs := ([0,(l1.length : Int),(-1)] : List Int)) (inner := [.int .i64 0,.int .i64 (l1.length : Int),.int .i64 (-1)]) (ok := fun _ => True) (okp := fun _ => True) ?hr ?hp (fun _ hk => hk) trivial (Below.refl _ _) (Nat.le_refl _) (by simp) ?_;(case hd => rfl);(case hg => rfl);(case hr => first|(go_simp;done)|(go_simp;rfl));(case hp => exact (Reps.one (show Kd.M (Kd.int .i64) _ _ _ 0 [.int .i64 0] from rfl) (Reps.one (show Kd.M (Kd.int .i64) _ _ _ (l1.length : Int) [.int .i64 (l1.length : Int)] from rfl) (Reps.one (show Kd.M (Kd.int .i64) _ _ _ (-1) [.int .i64 (-1)] from rfl) (Reps.none _ _)))));intro am w9 y hb hg_ hnew_;clear hg_ hnew_;(first|rw [<- z.out] at y|(simp only [Int.reduceToNat] at y;rw [<- z.out] at y));have d := ZA (Kd.Eas y (Eag (w := w) (g := g) (row := none) (ZW HK)));replace HK := ZA (Eaa.trans (ZW HK) (Eaa.of_below hb g none) (.inl rfl));replace HB := ZA (Eai (ZJ HB) hb);replace n := ZA (IsS82.below (ZS n) hb);clear hb y;obtain ⟨ae,af,ag⟩ := Kd.Eaj d.out;subst ag)|((with_reducible refine YG 60 ?_);refine YC (some 23) Tryz.func60 #[.pointer (some ⟨g,0,none⟩),.slice ae U.length af] (Fd.calls g j I J _ _ U q V X w0 _ (ZS n) (ZJ HB) (WR d) (CR d) (Ebf (IsS82.Ebh n.out d.out (by decide))) A5.out) ?_;rintro e ar ⟨rfl,hi,hb,hk⟩;refine ⟨_,rfl,?_⟩;replace d := KRR n d hk;replace HK := YK HK hk;replace HB := ZA (hb);replace n := ZA (hi))|((with_reducible refine Ead (N := 24) rfl ?_);refine Kd.Edj (Kd.int .i64) _ 3 ?hg (N := 24) ?hd (xs := ([0,o,p,wrap64 ((l1.length : Int) - 1),q] : List Int)) (inner := [.int .i64 0,.int .i64 o,.int .i64 p,.int .i64 (wrap64 ((l1.length : Int) - 1)),.int .i64 q]) (ok := fun _ => True) (okp := fun _ => True) ?hr ?hp (fun _ hk => hk) trivial (Below.refl _ _) (Nat.le_refl _) (by simp) ?_;(case hd => rfl);(case hg => rfl);(case hr => first|(go_simp;done)|(go_simp;rfl));(case hp => exact (Reps.one (show Kd.M (Kd.int .i64) _ _ _ 0 [.int .i64 0] from rfl) (Reps.one (show Kd.M (Kd.int .i64) _ _ _ o [.int .i64 o] from rfl) (Reps.one (show Kd.M (Kd.int .i64) _ _ _ p [.int .i64 p] from rfl) (Reps.one (show Kd.M (Kd.int .i64) _ _ _ (wrap64 ((l1.length : Int) - 1)) [.int .i64 (wrap64 ((l1.length : Int) - 1))] from rfl) (Reps.one (show Kd.M (Kd.int .i64) _ _ _ q [.int .i64 q] from rfl) (Reps.none _ _)))))));intro an au s hb hg_ hnew_;clear hg_ hnew_;(first|rw [<- D.out] at s|(simp only [Int.reduceToNat] at s;rw [<- D.out] at s));have m := ZA (Kd.Eas (Kd.R_new' s (Kd.R_lt (ZK d))) (Eag (w := w) (g := g) (row := none) (ZW HK)));replace d := ZA (Kd.R_elder' (ZK d) (Kd.Eap s) hb);replace HK := ZA (Eaa.trans (ZW HK) (Eaa.of_below hb g none) (.inl rfl));replace HB := ZA (Eai (ZJ HB) hb);replace n := ZA (IsS82.below (ZS n) hb);clear hb s;obtain ⟨ah,ai,aj⟩ := Kd.Eaj m.out;subst aj)|((with_reducible refine YG 60 ?_);refine YC (some 25) Tryz.func60 #[.pointer (some ⟨g,0,none⟩),.slice ah Y.length ai] (Fd.calls g j V X _ _ Y ab ac ad w0 _ (ZS n) (ZJ HB) (WR m) (CR m) (Ebf (IsS82.Ebh n.out m.out (by decide))) A6.out) ?_;rintro e av ⟨rfl,hi,hb,hk⟩;refine ⟨_,rfl,?_⟩;replace d := KRR n d hk;replace m := KRR n m hk;replace HK := YK HK hk;replace HB := ZA (hb);replace n := ZA (hi)))
 go_ret;exact ⟨YR,ZS n,ZJ HB,ZW HK⟩
def GW.f (k : Nat) (l0 : List Int) : Option ((List (S41)) × (List (List Int)) × Int × Int) := (FH.f k l0 0 0).bind fun d => ((GV.f l0 d.2.2.2.1 d.2.2.2.2 d.1).bind fun g => (some (d.1,d.2.1,d.2.2.1,g.1)))
theorem GW.calls (k : Nat) (A0 : Option Addr) (c0 : Nat) (l0 : List Int) (r1 : List (S41)) (r2 : List (List Int)) (r3 : Int) (r4 : Int) (w : World) (E : Kd.C (Kd.int .u8) w A0 l0.length l0) (G : l0.length <= c0) (h : GW.f k l0 = some (r1,r2,r3,r4)) :
  Calls Tryz.prog 56 #[.slice A0 l0.length c0] w fun e w' => ∃ q s : Value,e = .returned (.tuple #[q,s,.int .i64 r3,.int .i64 r4]) ∧ Kd.N k41 41 w' w.heap.size (fun k_ => (w.heap.size <= k_) ∧ some k_ ≠ (s : Value).ownBlock) q r1 ∧ Kd.N (Kd.slice 3 (Kd.int .i64)) 28 w' w.heap.size (fun k_ => (w.heap.size <= k_) ∧ some k_ ≠ (q : Value).ownBlock) s r2 ∧ Below w.heap.size w w' := by
 have aa := Tryz.underlying82;have I := ZA E;have ab := ZA G;clear E G;have HB := ZA (Below.refl w.heap.size w);have H := h;clear h;unfold GW.f at H;replace H := YJ H;obtain ⟨⟨m,t,u,n,o⟩,A2,H⟩ := H;try dsimp only at H
 replace H := YJ H;obtain ⟨⟨v,y,z⟩,A3,H⟩ := H;try dsimp only at H
 simp only [Option.some.injEq,Prod.mk.injEq] at H;obtain ⟨rfl,rfl,rfl,rfl⟩ := H;go_enter Tryz.func56,Tryz.ntmps56
 go_wp2_with (first|((with_reducible refine Ead (N := 12) rfl ?_);refine ZE 12 #[.slice A0 l0.length c0,.int .i64 0,.int .u64 0] 82 ?_;intro d hg w4 hbox hb;have g := ZA ((⟨_,_,hbox,(by rw [hg];exact (SZ HB)),I.out⟩ : IsS82 w w4 d l0 0 0));replace HB := BS HB hb;clear hb hbox hg)|((with_reducible refine YG 58 ?_);refine YC (some 15) Tryz.func58 #[.pointer (some ⟨d,0,none⟩)] (FH.calls k d l0 0 0 m t u n o w _ (ZS g) (ZJ HB) A2.out) ?_;rintro e w5 ⟨D,p,rfl,J,M,hi,hb,hk⟩;refine ⟨_,rfl,?_⟩;have i := ZA (Kd.Ecq (Kd.Eah (ok' := fun k_ => (w.heap.size <= k_) ∧ some k_ ≠ (p : Value).ownBlock ∧ k_ ≠ d) J (fun k_ hk_ => ⟨(Nat.le_trans (Eao (ZJ HB)) hk_.1),hk_.2,(IsS82.fresh (ZS g) k_ hk_.1)⟩)) (Eao (ZJ HB)));have j := ZA (Kd.Ecq (Kd.Eah (ok' := fun k_ => (w.heap.size <= k_) ∧ some k_ ≠ (D : Value).ownBlock ∧ k_ ≠ d) M (fun k_ hk_ => ⟨(Nat.le_trans (Eao (ZJ HB)) hk_.1),hk_.2,(IsS82.fresh (ZS g) k_ hk_.1)⟩)) (Eao (ZJ HB)));replace HB := ZA (hb);replace g := ZA (hi);obtain ⟨U,V,X⟩ := Kd.Ebz i.out;subst X)|((with_reducible refine YG 59 ?_);refine YC (some 24) Tryz.func59 #[.pointer (some ⟨d,0,none⟩),.slice U m.length V] (GV.calls d l0 n o _ _ m v y z w _ (ZS g) (ZJ HB) (Kd.Egd (base := 0) (Kd.N_V (Kd.Eah (ok := fun k_ => (((w.heap.size <= k_)) ∧ (some k_ ≠ (p : Value).ownBlock ∧ k_ ≠ d))) (ZKN i) (fun k_ hk_ => (⟨hk_,hk_.2.2⟩ : _ ∧ k_ ≠ d)))) (fun _ h_ => h_.2)) (CN i) A3.out) ?_;rintro e w7 ⟨rfl,hi,hb,hk⟩;refine ⟨_,rfl,?_⟩;replace i := KNN i hk (fun _ hk_ => hk_.2.2);replace j := KNN j hk (fun _ hk_ => hk_.2.2);replace HB := ZA (hb);replace g := ZA (hi)))
 refine bodyPost_ret (Eed (rs := [.tmp 2,.tmp 3,.tmp 4,.tmp 5]) rfl (by simp) (.tmp (.tmp (.tmp (.tmp .nil))))) rfl ?_;exact ⟨_,_,YR,ZKN ⟨Kd.Eah i.out (fun _ hk => ⟨hk.1,hk.2.1⟩)⟩,ZKN ⟨Kd.Eah j.out (fun _ hk => ⟨hk.1,hk.2.1⟩)⟩,ZJ HB⟩
def GK.f (k : Nat) (l0 : List Int) : Option (Int × List Int) := (Fb.f l0 0 0 8).bind fun d => ((Fc.f k l0 d.2.1 d.2.2 (wrap64 (2 + d.1))).bind fun g => (some (g.1,g.2.1)))
theorem GK.calls (k : Nat) (A0 : Option Addr) (c0 : Nat) (l0 : List Int) (r1 : Int) (r2 : List Int) (w : World) (M : Kd.C (Kd.int .u8) w A0 l0.length l0) (U : l0.length <= c0) (h : GK.f k l0 = some (r1,r2)) :
  Calls Tryz.prog 57 #[.slice A0 l0.length c0] w fun e w' => ∃ V : Value,e = .returned (.agg #[.int .i64 r1,V]) ∧ Kd.R (Kd.int .i64) 3 w' w.heap.size (fun _ => True) V r2 ∧ Below w.heap.size w w' := by
 have ag := Tryz.underlying30;have ah := Tryz.underlying82;have X := ZA M;have al := ZA U;clear M U;have HB := ZA (Below.refl w.heap.size w);have H := h;clear h;unfold GK.f at H;replace H := YJ H;obtain ⟨⟨u,y,z⟩,A2,H⟩ := H;try dsimp only at H
 replace H := YJ H;obtain ⟨⟨s,v,G,I⟩,A3,H⟩ := H;try dsimp only at H
 simp only [Option.some.injEq,Prod.mk.injEq] at H;obtain ⟨rfl,rfl⟩ := H;go_enter Tryz.func57,Tryz.ntmps57
 go_wp2_with (first|((with_reducible refine Ead (N := 2) rfl ?_);refine ZE 2 #[.int .i64 0,.slice none 0 0] 30 ?_;intro i hg w4 hbox hb;have d := ZA (hbox);have ae := YQ hg HB;have af := YQ hg HB;replace HB := BS HB hb;clear hb hbox hg)|((with_reducible refine Ead (N := 6) rfl ?_);refine ZE 6 #[.slice A0 l0.length c0,.int .i64 0,.int .u64 0] 82 ?_;intro m hg w5 hbox hb;have n := ZA ((⟨_,_,hbox,(by rw [hg];exact (SZ HB)),X.out⟩ : IsS82 w w5 m l0 0 0));replace HB := BS HB hb;have j := ZA ((by rw [hg];exact Nat.ne_of_lt (Ebp (g := i) (o := .cells #[.int .i64 0,.slice none 0 0] 30 (0,0)) (ZH d)) : i ≠ m));have q := ZA ((by rw [hg];exact Nat.ne_of_gt (Ebp (g := i) (o := .cells #[.int .i64 0,.slice none 0 0] 30 (0,0)) (ZH d)) : m ≠ i));replace d := ZA (Eac (ZH d) hb);clear hb hbox hg)|((with_reducible refine YG 83 ?_);refine YC (some 9) Tryz.func83 #[.pointer (some ⟨m,0,none⟩),.int .i64 8] (Fb.calls m l0 0 0 8 u y z w _ (ZS n) (ZJ HB) A2.out) ?_;rintro e w6 ⟨rfl,hi,hb,hk⟩;refine ⟨_,rfl,?_⟩;replace d := ZA (Eaa.blk hk (g' := i) (o := .cells #[.int .i64 0,.slice none 0 0] 30 (0,0)) (ZH d) j.out (by simp));replace HB := ZA (hb);replace n := ZA (hi))|((with_reducible refine YG 77 ?_);refine YC (some 11) Tryz.func77 #[.pointer (some ⟨m,0,none⟩),.int .i64 (wrap64 (2 + u))] (Fc.calls k m l0 y z (wrap64 (2 + u)) s v G I w _ (ZS n) (ZJ HB) A3.out) ?_;rintro e w7 ⟨ai,rfl,Y,hi,hb,hk⟩;refine ⟨_,rfl,?_⟩;replace d := ZA (Eaa.blk hk (g' := i) (o := .cells #[.int .i64 0,.slice none 0 0] 30 (0,0)) (ZH d) j.out (by simp));have t := ZA (Kd.Eas Y (Eao (ZJ HB)));replace HB := ZA (hb);replace n := ZA (hi);have aj := j.out;have ak := q.out;have aa : w7.cell? ⟨i,0,none⟩ = some (.int .i64 0) := ZC d 0 rfl;have ab : w7.cell? ⟨i,1,none⟩ = some (.slice none 0 0) := ZC d 1 rfl;have ac := Ea d.out 0;have ad := Ea d.out 1;obtain ⟨D,E,J⟩ := Kd.Eaj t.out;subst J))
 refine bodyPost_ret (results_cell_row rfl _ _ i 30 #[.int .i64 s,.slice D v.length E] (0,0) _ rfl (by refine ZY ?_;refine Eae (cs := #[.int .i64 s,.slice none 0 0]) ?_ 1 _ rfl;refine ZY ?_;refine Eae (cs := #[.int .i64 0,.slice none 0 0]) ?_ 0 _ rfl;refine ZY ?_;exact d.out) Tryz.underlying30 rfl (by kernel_rfl)) rfl ?_;exact ⟨_,YR,ZK ⟨Kd.Eak (Kd.Ebs (p := ⟨i,1,none⟩) (Kd.Ebs (p := ⟨i,0,none⟩) (Kd.Eaw t.out d.out (by decide)) (fun _ hk => hk.2) (.int .i64 s)) (fun _ hk => hk.2) (.slice D v.length E)) (fun _ hk => trivial)⟩,ZJ HB⟩
end Go.Proofs.YtgnijnlgbelifaaGreat.Q
