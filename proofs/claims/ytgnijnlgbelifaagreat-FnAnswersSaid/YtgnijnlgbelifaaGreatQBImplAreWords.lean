import Derived.Test.YtgnijnlgbelifaaGreatQBSlicesIndexInt
import Derived.Test.YtgnijnlgbelifaaGreatQSlicesContainsFuncImplWord
import Derived.Test.YtgnijnlgbelifaaGreatGDel
namespace Go.Proofs.YtgnijnlgbelifaaGreat.Q
open RowKit W.PrintWords W.PrintLast W.PrintMore W.GCall
attribute [local go_sem] Ebi Ebj Ebx Eby Ebb Ebc Ebk Ebl
set_option linter.unusedVariables false
set_option linter.unusedSimpArgs false
mutual
def Fl.l0 : Nat -> List (S41) -> List (S41) -> Int -> Int -> Option (Bool)
 | 0,_,_,_,_ => none
 | k + 1,x0,x5,x6,x7 => if x7 < x6 then (if 0 <= x7 then (if x7 < (x5.length : Int) then ((GZ.f k ((rd_T41 x5 x7).f0)).bind fun d => (if d = true then ((FB.f ((rd_T41 x5 x7).f2) 0 99999).bind fun g => (if g = true then ((FP.f ((rd_T41 x5 x7).f1) 0 (wrap64 ((x0.length : Int) - 1))).bind fun i => (if i = true then ((FN.f k ((rd_T41 x5 x7).f1) x7).bind fun j => (Fl.j1 k x0 x7 x5 x6 x7 j ((rd_T41 x5 x7).f0) ((rd_T41 x5 x7).f1) ((rd_T41 x5 x7).f2))) else (Fl.j1 k x0 x7 x5 x6 x7 true ((rd_T41 x5 x7).f0) ((rd_T41 x5 x7).f1) ((rd_T41 x5 x7).f2)))) else (Fl.j1 k x0 x7 x5 x6 x7 true ((rd_T41 x5 x7).f0) ((rd_T41 x5 x7).f1) ((rd_T41 x5 x7).f2)))) else (Fl.j1 k x0 x7 x5 x6 x7 true ((rd_T41 x5 x7).f0) ((rd_T41 x5 x7).f1) ((rd_T41 x5 x7).f2)))) else (none)) else (none)) else (some (decide ((x0.length : Int) <= 16)))
def Fl.j1 : Nat -> List (S41) -> Int -> List (S41) -> Int -> Int -> Bool -> ByteArray -> List Int -> Int -> Option (Bool)
 | 0,_,_,_,_,_,_,_,_,_ => none
 | k + 1,x0,x3,x5,x6,x7,n,g,d,i => if n = true then (some false) else ((Fj.f d).bind fun j => (if (j.length : Int) = (d.length : Int) then ((FD.f k d).bind fun m => (Fl.j2 k x0 x3 x5 x6 x7 (!m) g d i)) else (Fl.j2 k x0 x3 x5 x6 x7 true g d i)))
def Fl.j2 : Nat -> List (S41) -> Int -> List (S41) -> Int -> Int -> Bool -> ByteArray -> List Int -> Int -> Option (Bool)
 | 0,_,_,_,_,_,_,_,_,_ => none
 | k + 1,x0,x3,x5,x6,x7,i,d,aa,ab => if i = true then (some false) else (if 0 <= x3 then (if x3 <= (x0.length : Int) then ((FZ.f (x0.take (x3 : Int).toNat) d).bind fun g => (if g = true then (some false) else (Fl.l0 k x0 x5 x6 (wrap64 (x7 + 1))))) else (none)) else (none))
end
def Fl.f (k : Nat) (l0 : List (S41)) : Option (Bool) := Fl.l0 k l0 l0 (l0.length : Int) 0
def Fl.T6 : Bool × List (List Nat × List Nat) := (true,[([],[]),([0],[0]),([1],[1]),([2],[2]),([],[]),([4],[4]),([5],[5]),([3,6],[3,6]),([7,2],[7]),([8],[8]),([9,8],[8,9]),([10,8,8],[8,10]),([11,8],[8,11]),([8,12],[8,12])])
def Fl.B6 : List Nat := [0,1,3,7,0,16,48,127,255,511,1023,2047,4095,8191]
theorem Fl.tab6 : rtab .any (opsOf Tryz.f73 6) = Fl.T6 := by kernel_rfl
theorem Fl.bits6 : Ecc Fl.T6.2 Fl.B6 = true := by kernel_rfl
set_option maxHeartbeats 3000000 in
set_option maxRecDepth 100000 in
theorem Fl.calls (k : Nat) (A0 : Option Addr) (c0 : Nat) (l0 : List (S41)) (r : Bool) (w : World) (bA : Kd.C k41 w A0 l0.length l0) (bB : l0.length <= c0) (h : Fl.f k l0 = some r) :
  Calls Tryz.prog 73 #[.slice A0 l0.length c0] w fun e w' => e = .returned (.bool r) ∧ Below w.heap.size w w' := by
 have bN := Tryz.underlying41;have bf := ZA bA;have bC := ZA bB;clear bA bB;have HB := ZA (Below.refl w.heap.size w);have H : (Fl.l0 k l0 l0 (l0.length : Int) 0) = some r := h;clear h;have H' := ZA H;clear H;go_enter Tryz.func73,Tryz.ntmps73;go_wp2
 go_loopg [7] k (fun kq v7 w' => ∃ (i : Int),v7 = .int .i64 i ∧ Aside0 (Fl.l0 kq l0 l0 (l0.length : Int) i = some r) ∧ Aside0 (kq <= k) ∧ Aside0 (Below w.heap.size w w'))
 case atStart => exact ⟨(0),ZG,H',⟨Nat.le_refl _⟩,⟨ZQ HB⟩⟩
 case round =>
  clear H';obtain ⟨i,rfl,HA,ag,HB⟩ := hrel;cases gk with
  | zero => exact absurd HA.out (by simp [Fl.l0])
  | succ k1 =>
   have H := HA.out;clear HA;simp only [Fl.l0] at H;replace H := YI H;rcases H with ⟨bg,H⟩|⟨bg,H⟩;rotate_left
   ·obtain rfl := Option.some.inj H;go_wp2;go_ret;exact ⟨YR,ZQ HB⟩
   replace H := YN H;obtain ⟨bO,H⟩ := H;replace H := YN H;obtain ⟨bP,H⟩ := H;have bh := ZA H;clear H;have aj : 0 <= (i : Int) := ZD;have ak : i < (l0.length : Int) := ZD;obtain ⟨v,p,q,bi,G,I,J,M,U⟩ := at_T41 bf.out i aj ak;cases bi;replace G := ZX HB G;replace I := ZX HB I;replace J := ZX HB J;have s := ZA U;have u := ZA M;clear U M;replace aj := eq_true aj;replace ak := eq_true ak
   go_upto_region 4 with (first|((with_reducible refine Ead (N := 4) rfl ?_);(try (refine Eau (by rfl) ?_;dsimp only));refine ZE 4 #[.string (⟨#[]⟩ : ByteArray),.slice none 0 0,.int .i64 0] 41 ?_;intro j hg w6 hbox hb;have d := ZA (hbox);have bD := YQ hg HB;have bE := YQ hg HB;replace HB := BS HB hb;clear hb hbox hg;have bj : w6.cell? ⟨j,0,none⟩ = some (.string (⟨#[]⟩ : ByteArray)) := ZC d 0 rfl;have bk : w6.cell? ⟨j,1,none⟩ = some (.slice none 0 0) := ZC d 1 rfl;have bl : w6.cell? ⟨j,2,none⟩ = some (.int .i64 0) := ZC d 2 rfl;have bm := Ea d.out 0;have bn := Ea d.out 1;have bo := Ea d.out 2))
   (try simp only [Act.put,zuA,zuB,zuC])
   go_cut [36] (fun bQ wc => ∃ (kq : Nat) (V : Bool),bQ = .bool V ∧ Aside0 (Fl.j1 kq l0 i l0 (l0.length : Int) i V ((rd_T41 l0 i).f0) ((rd_T41 l0 i).f1) ((rd_T41 l0 i).f2) = some r) ∧ Aside0 (kq <= k1) ∧ Aside0 (wc.heap[j]? = some (.cells #[.string ((rd_T41 l0 i).f0),(.slice p ((rd_T41 l0 i).f1).length q),.int .i64 ((rd_T41 l0 i).f2)] 41 (0,0))) ∧ Aside0 (Below w.heap.size w wc))
   case first =>
    have H := bh.out;clear bh;replace H := YJ H;obtain ⟨bR,A8,H⟩ := H;replace H := YF H;rcases H with ⟨rfl,H⟩|⟨rfl,H⟩;rotate_left
    ·have H' := ZA H;clear H;have aG : w6.cell? ⟨j,0,none⟩ = some (.string (⟨#[]⟩ : ByteArray)) := ZC d 0 rfl;have aH : w6.cell? ⟨j,1,none⟩ = some (.slice none 0 0) := ZC d 1 rfl;have aI : w6.cell? ⟨j,2,none⟩ = some (.int .i64 0) := ZC d 2 rfl;have aJ := Ea d.out 0;have aK := Ea d.out 1;have aL := Ea d.out 2
     go_wp2_with (first|((with_reducible refine YG 127 ?_);refine YC (some 14) Tryz.func127 #[.string ((rd_T41 l0 i).f0)] (GZ.calls k1 ((rd_T41 l0 i).f0) false _ A8.out) ?_;rintro e w' ⟨rfl,⟨nd,rfl⟩⟩;refine ⟨_,rfl,?_⟩))
     go_meet
     case rel => exact ⟨_,(true),ZG,H',⟨by have := ag.out;first|omega|exact Nat.le_refl _⟩,⟨by refine ZY ?_;refine Eae (cs := #[.string ((rd_T41 l0 i).f0),.slice p ((rd_T41 l0 i).f1).length q,.int .i64 0]) ?_ 2 _ rfl;refine ZY ?_;refine Eae (cs := #[.string ((rd_T41 l0 i).f0),.slice none 0 0,.int .i64 0]) ?_ 1 _ rfl;refine ZY ?_;refine Eae (cs := #[.string (⟨#[]⟩ : ByteArray),.slice none 0 0,.int .i64 0]) ?_ 0 _ rfl;refine ZY ?_;exact d.out⟩,⟨ZQ HB⟩⟩
    replace H := YJ H;obtain ⟨bS,bp,H⟩ := H;replace H := YF H;rcases H with ⟨rfl,H⟩|⟨rfl,H⟩;rotate_left
    ·have H' := ZA H;clear H;have aM : w6.cell? ⟨j,0,none⟩ = some (.string (⟨#[]⟩ : ByteArray)) := ZC d 0 rfl;have aN : w6.cell? ⟨j,1,none⟩ = some (.slice none 0 0) := ZC d 1 rfl;have aO : w6.cell? ⟨j,2,none⟩ = some (.int .i64 0) := ZC d 2 rfl;have aP := Ea d.out 0;have aQ := Ea d.out 1;have aR := Ea d.out 2
     go_wp2_with (first|((with_reducible refine YG 127 ?_);refine YC (some 14) Tryz.func127 #[.string ((rd_T41 l0 i).f0)] (GZ.calls k1 ((rd_T41 l0 i).f0) true _ A8.out) ?_;rintro e w' ⟨rfl,⟨nd,rfl⟩⟩;refine ⟨_,rfl,?_⟩)|(go_at_call 62;(with_reducible refine (FB.calls ((rd_T41 l0 i).f2) 0 99999 false _ bp.out).mono ?_);rintro e w' ⟨rfl,⟨nd,rfl⟩⟩))
     go_meet
     case rel => exact ⟨_,(true),ZG,H',⟨by have := ag.out;first|omega|exact Nat.le_refl _⟩,⟨by refine ZY ?_;refine Eae (cs := #[.string ((rd_T41 l0 i).f0),.slice p ((rd_T41 l0 i).f1).length q,.int .i64 0]) ?_ 2 _ rfl;refine ZY ?_;refine Eae (cs := #[.string ((rd_T41 l0 i).f0),.slice none 0 0,.int .i64 0]) ?_ 1 _ rfl;refine ZY ?_;refine Eae (cs := #[.string (⟨#[]⟩ : ByteArray),.slice none 0 0,.int .i64 0]) ?_ 0 _ rfl;refine ZY ?_;exact d.out⟩,⟨ZQ HB⟩⟩
    replace H := YJ H;obtain ⟨bT,bF,H⟩ := H;replace H := YF H;rcases H with ⟨rfl,H⟩|⟨rfl,H⟩;rotate_left
    ·have H' := ZA H;clear H;have aS : w6.cell? ⟨j,0,none⟩ = some (.string (⟨#[]⟩ : ByteArray)) := ZC d 0 rfl;have aT : w6.cell? ⟨j,1,none⟩ = some (.slice none 0 0) := ZC d 1 rfl;have aU : w6.cell? ⟨j,2,none⟩ = some (.int .i64 0) := ZC d 2 rfl;have aV := Ea d.out 0;have aW := Ea d.out 1;have aX := Ea d.out 2
     go_wp2_with (first|((with_reducible refine YG 127 ?_);refine YC (some 14) Tryz.func127 #[.string ((rd_T41 l0 i).f0)] (GZ.calls k1 ((rd_T41 l0 i).f0) true _ A8.out) ?_;rintro e w' ⟨rfl,⟨nd,rfl⟩⟩;refine ⟨_,rfl,?_⟩)|(go_at_call 62;(with_reducible refine (FB.calls ((rd_T41 l0 i).f2) 0 99999 true _ bp.out).mono ?_);rintro e w' ⟨rfl,⟨nd,rfl⟩⟩)|(go_at_call 74;(with_reducible refine (FP.calls _ _ ((rd_T41 l0 i).f1) 0 (wrap64 ((l0.length : Int) - 1)) false _ (Kd.Eab s.out (ZQ HB)) u.out bF.out).mono ?_);rintro e b5 ⟨rfl,hb⟩;replace d := ZA (Eac (g := j) (o := .cells #[.string ((rd_T41 l0 i).f0),.slice p ((rd_T41 l0 i).f1).length q,.int .i64 ((rd_T41 l0 i).f2)] 41 (0,0)) (by refine ZY ?_;refine Eae (cs := #[.string ((rd_T41 l0 i).f0),.slice p ((rd_T41 l0 i).f1).length q,.int .i64 0]) ?_ 2 _ rfl;refine ZY ?_;refine Eae (cs := #[.string ((rd_T41 l0 i).f0),.slice none 0 0,.int .i64 0]) ?_ 1 _ rfl;refine ZY ?_;refine Eae (cs := #[.string (⟨#[]⟩ : ByteArray),.slice none 0 0,.int .i64 0]) ?_ 0 _ rfl;refine ZY ?_;exact d.out) hb);replace HB := BS HB hb))
     go_meet
     case rel => exact ⟨_,(true),ZG,H',⟨by have := ag.out;first|omega|exact Nat.le_refl _⟩,⟨ZH d⟩,⟨ZQ HB⟩⟩
    replace H := YJ H;obtain ⟨av,bU,H⟩ := H;have H' := ZA H;clear H;have aY : w6.cell? ⟨j,0,none⟩ = some (.string (⟨#[]⟩ : ByteArray)) := ZC d 0 rfl;have aZ : w6.cell? ⟨j,1,none⟩ = some (.slice none 0 0) := ZC d 1 rfl;have a0 : w6.cell? ⟨j,2,none⟩ = some (.int .i64 0) := ZC d 2 rfl;have a1 := Ea d.out 0;have a2 := Ea d.out 1;have a3 := Ea d.out 2
    go_wp2_with (first|((with_reducible refine YG 127 ?_);refine YC (some 14) Tryz.func127 #[.string ((rd_T41 l0 i).f0)] (GZ.calls k1 ((rd_T41 l0 i).f0) true _ A8.out) ?_;rintro e w' ⟨rfl,⟨nd,rfl⟩⟩;refine ⟨_,rfl,?_⟩)|(go_at_call 62;(with_reducible refine (FB.calls ((rd_T41 l0 i).f2) 0 99999 true _ bp.out).mono ?_);rintro e w' ⟨rfl,⟨nd,rfl⟩⟩)|(go_at_call 74;(with_reducible refine (FP.calls _ _ ((rd_T41 l0 i).f1) 0 (wrap64 ((l0.length : Int) - 1)) true _ (Kd.Eab s.out (ZQ HB)) u.out bF.out).mono ?_);rintro e bq ⟨rfl,hb⟩;replace d := ZA (Eac (g := j) (o := .cells #[.string ((rd_T41 l0 i).f0),.slice p ((rd_T41 l0 i).f1).length q,.int .i64 ((rd_T41 l0 i).f2)] 41 (0,0)) (by refine ZY ?_;refine Eae (cs := #[.string ((rd_T41 l0 i).f0),.slice p ((rd_T41 l0 i).f1).length q,.int .i64 0]) ?_ 2 _ rfl;refine ZY ?_;refine Eae (cs := #[.string ((rd_T41 l0 i).f0),.slice none 0 0,.int .i64 0]) ?_ 1 _ rfl;refine ZY ?_;refine Eae (cs := #[.string (⟨#[]⟩ : ByteArray),.slice none 0 0,.int .i64 0]) ?_ 0 _ rfl;refine ZY ?_;exact d.out) hb);replace HB := BS HB hb;have a4 : bq.cell? ⟨j,0,none⟩ = some (.string ((rd_T41 l0 i).f0)) := ZC d 0 rfl;have a5 : bq.cell? ⟨j,1,none⟩ = some (.slice p ((rd_T41 l0 i).f1).length q) := ZC d 1 rfl;have a6 : bq.cell? ⟨j,2,none⟩ = some (.int .i64 ((rd_T41 l0 i).f2)) := ZC d 2 rfl;have a7 := Ea d.out 0;have a8 := Ea d.out 1;have a9 := Ea d.out 2)|(go_at_call 91;(with_reducible refine (FN.calls k1 _ _ ((rd_T41 l0 i).f1) i av _ (ZR (Kd.Eab s.out HB.out)) u.out bU.out).mono ?_);rintro e w' ⟨rfl,⟨nd,rfl⟩⟩))
    go_meet
    case rel => exact ⟨_,(av),ZG,H',⟨by have := ag.out;first|omega|exact Nat.le_refl _⟩,⟨ZH d⟩,⟨ZQ HB⟩⟩
   case rest =>
    clear bh;obtain ⟨kq,V,rfl,HA,ba,d,HB⟩ := hcut;cases kq with
    | zero => exact absurd HA.out (by simp [Fl.j1])
    | succ bG =>
     have H := HA.out;clear HA;simp only [Fl.j1] at H;by_cases bb : V = true
     ·subst bb;rw [if_pos rfl] at H;obtain rfl := Option.some.inj H;go_wp2;go_ret;exact ⟨YR,ZQ HB⟩
     replace bb := Bool.eq_false_iff.mpr bb;subst bb;rw [if_neg (show ¬ (false = true) by decide)] at H;have al := ZA H;clear H
     go_upto_region 6 with (fail)
     go_cut [50] (fun bV wc => ∃ (kq : Nat) (y : Bool),bV = .bool y ∧ Aside0 (Fl.j2 kq l0 i l0 (l0.length : Int) i y ((rd_T41 l0 i).f0) ((rd_T41 l0 i).f1) ((rd_T41 l0 i).f2) = some r) ∧ Aside0 (kq <= bG) ∧ Aside0 (wc.heap[j]? = some (.cells #[.string ((rd_T41 l0 i).f0),(.slice p ((rd_T41 l0 i).f1).length q),.int .i64 ((rd_T41 l0 i).f2)] 41 (0,0))) ∧ Aside0 (Below w.heap.size w wc))
     case first =>
      have H := al.out;clear al;replace H := YJ H;obtain ⟨z,bH,H⟩ := H;by_cases aa : (z.length : Int) = (((rd_T41 l0 i).f1).length : Int);rotate_left
      ·rw [if_neg aa] at H;have E : ((z.length : Int) == (((rd_T41 l0 i).f1).length : Int)) = false := beq_eq_false_iff_ne.mpr aa;have ab : ((z.length : Int) != (((rd_T41 l0 i).f1).length : Int)) = true := bne_iff_ne.mpr aa;have aw : (z.length == ((rd_T41 l0 i).f1).length) = false := by first|simpa using aa|(simp at aa ⊢;omega)
       (first|rw [E]|rw [ab]|(simp only [Eay,Eba];rw [E])|skip)
       have H' := ZA H;clear H
       try go_wp2
       replace d := ZA (Ear d.out);replace HB := ZA (Eaf HB.out);refine Ebe (n := 14) (S := fun w' => w'.cell? ⟨j,0,none⟩ = some (.string ((rd_T41 l0 i).f0)) ∧ w'.cell? ⟨j,1,none⟩ = some (.slice p ((rd_T41 l0 i).f1).length q) ∧ w'.cell? ⟨j,2,none⟩ = some (.int .i64 ((rd_T41 l0 i).f2))) (ds := []) (ZL 14 0) (by kernel_rfl) rfl rfl ⟨ZC d 0 rfl,ZC d 1 rfl,ZC d 2 rfl⟩ (fun hHeld => ?_);refine Eat Fl.tab6 Fl.bits6 (fun HT_ HW_ => ?_);generalize wc.drew = b6 at d HB hHeld ⊢;refine YP 0 37 (ZL 14 1) rfl rfl HT_ ?_;refine YP 4 41 (ZL 14 17) rfl rfl HT_ ?_;refine YT 1 38 (ZL 14 19) rfl rfl HT_ HW_ hHeld ?_;refine YT 5 42 (ZL 14 51) rfl rfl HT_ HW_ hHeld ?_;refine YP 6 43 (ZL 14 115) rfl rfl HT_ ?_;refine ZO 2 39 (ZL 14 119) rfl rfl HT_ fun K hK => ?_
       refine YS Tryz.func100 #[.slice p ((rd_T41 l0 i).f1).length q] ?_
       with_reducible refine (Fj.calls _ _ ((rd_T41 l0 i).f1) z _ (ZR (Kd.Eab s.out HB.out)) u.out bH.out).mono ?_
       rintro e b7 ⟨br,rfl,bs,hb⟩;refine ⟨_,rfl,?_⟩;have ac := ZA (Kd.Eas bs (SZ HB));replace d := ZA (Eac (ZH d) hb);replace HB := BS HB hb;obtain ⟨bW,bX,ax⟩ := Kd.Eaj ac.out
       (first|subst ax|(injection ax with f1_ f2_ f3_;have bt := f1_.symm;have bu := f3_.symm;clear f1_ f2_ f3_;subst bt;subst bu))
       refine hK.out _ _ ⟨ZC d 0 rfl,ZC d 1 rfl,ZC d 2 rfl⟩ (fun hHeld => ?_);clear hK K;refine YZ (some 39) ?_;refine YP 3 40 (ZL 14 127) rfl rfl HT_ ?_;refine YP 7 44 (ZL 14 255) rfl rfl HT_ ?_;refine YP 8 45 (ZL 14 511) rfl rfl HT_ ?_;refine YU 9 46 (ZL 14 1023) rfl rfl HT_ ?_;refine YU 10 47 (ZL 14 2047) rfl rfl HT_ ?_;refine YU 11 48 (ZL 14 4095) rfl rfl HT_ ?_;refine YU 12 49 (ZL 14 8191) rfl rfl HT_ ?_;refine YP 13 50 (ZL 14 16383) rfl rfl HT_ ?_;refine Ecb (Eb HT_.out (by kernel_rfl)) ?_
       try go_wp2
       go_meet
       case rel => exact ⟨_,(true),ZG,H',⟨by have := ag.out;have := ba.out;first|omega|exact Nat.le_refl _⟩,⟨ZH d⟩,⟨ZQ HB⟩⟩
      rw [if_pos aa] at H;have E : ((z.length : Int) == (((rd_T41 l0 i).f1).length : Int)) = true := beq_iff_eq.mpr aa;have ab : ((z.length : Int) != (((rd_T41 l0 i).f1).length : Int)) = false := bne_eq_false_iff_eq.mpr aa;have aw : (z.length == ((rd_T41 l0 i).f1).length) = true := by first|simpa using aa|(simp at aa ⊢;omega)
      clear aa
      (first|rw [E]|rw [ab]|(simp only [Eay,Eba];rw [E])|skip)
      replace H := YJ H;obtain ⟨ay,bY,H⟩ := H;have H' := ZA H;clear H
      try go_wp2
      replace d := ZA (Ear d.out);replace HB := ZA (Eaf HB.out);refine Ebe (n := 14) (S := fun w' => w'.cell? ⟨j,0,none⟩ = some (.string ((rd_T41 l0 i).f0)) ∧ w'.cell? ⟨j,1,none⟩ = some (.slice p ((rd_T41 l0 i).f1).length q) ∧ w'.cell? ⟨j,2,none⟩ = some (.int .i64 ((rd_T41 l0 i).f2))) (ds := []) (ZL 14 0) (by kernel_rfl) rfl rfl ⟨ZC d 0 rfl,ZC d 1 rfl,ZC d 2 rfl⟩ (fun hHeld => ?_);refine Eat Fl.tab6 Fl.bits6 (fun HT_ HW_ => ?_);generalize wc.drew = b8 at d HB hHeld ⊢;refine YP 0 37 (ZL 14 1) rfl rfl HT_ ?_;refine YP 4 41 (ZL 14 17) rfl rfl HT_ ?_;refine YT 1 38 (ZL 14 19) rfl rfl HT_ HW_ hHeld ?_;refine YT 5 42 (ZL 14 51) rfl rfl HT_ HW_ hHeld ?_;refine YP 6 43 (ZL 14 115) rfl rfl HT_ ?_;refine ZO 2 39 (ZL 14 119) rfl rfl HT_ fun K hK => ?_
      refine YS Tryz.func100 #[.slice p ((rd_T41 l0 i).f1).length q] ?_
      with_reducible refine (Fj.calls _ _ ((rd_T41 l0 i).f1) z _ (ZR (Kd.Eab s.out HB.out)) u.out bH.out).mono ?_
      rintro e b9 ⟨br,rfl,bs,hb⟩;refine ⟨_,rfl,?_⟩;have ac := ZA (Kd.Eas bs (SZ HB));replace d := ZA (Eac (ZH d) hb);replace HB := BS HB hb;obtain ⟨bZ,b0,az⟩ := Kd.Eaj ac.out
      (first|subst az|(injection az with f1_ f2_ f3_;have bt := f1_.symm;have bu := f3_.symm;clear f1_ f2_ f3_;subst bt;subst bu))
      refine hK.out _ _ ⟨ZC d 0 rfl,ZC d 1 rfl,ZC d 2 rfl⟩ (fun hHeld => ?_);clear hK K;refine YZ (some 39) ?_;refine YP 3 40 (ZL 14 127) rfl rfl HT_ ?_;refine YP 7 44 (ZL 14 255) rfl rfl HT_ ?_;refine YP 8 45 (ZL 14 511) rfl rfl HT_ ?_;refine YP 9 46 (ZL 14 1023) rfl rfl HT_ ?_;refine YT 10 47 (ZL 14 2047) rfl rfl HT_ HW_ hHeld ?_;refine ZO 11 48 (ZL 14 4095) rfl rfl HT_ fun K hK => ?_
      refine YS Tryz.func128 #[.slice p ((rd_T41 l0 i).f1).length q] ?_
      with_reducible refine (FD.calls bG _ _ ((rd_T41 l0 i).f1) ay _ (ZR (Kd.Eab s.out HB.out)) u.out bY.out).mono ?_
      rintro e w' ⟨rfl,⟨nd,rfl⟩⟩;refine ⟨_,rfl,?_⟩;refine hK.out _ _ ⟨ZC d 0 rfl,ZC d 1 rfl,ZC d 2 rfl⟩ (fun hHeld => ?_);clear hK K;refine YZ (some 48) ?_;refine YP 12 49 (ZL 14 8191) rfl rfl HT_ ?_;refine YP 13 50 (ZL 14 16383) rfl rfl HT_ ?_;refine Ecb (Eb HT_.out (by kernel_rfl)) ?_
      try go_wp2
      go_meet
      case rel => exact ⟨_,(!ay),ZG,H',⟨by have := ag.out;have := ba.out;first|omega|exact Nat.le_refl _⟩,⟨ZH d⟩,⟨ZQ HB⟩⟩
     case rest =>
      clear al;obtain ⟨kq,y,rfl,HA,aA,d,HB⟩ := hcut;cases kq with
      | zero => exact absurd HA.out (by simp [Fl.j2])
      | succ aB =>
       have H := HA.out;clear HA;simp only [Fl.j2] at H;by_cases bc : y = true
       ·subst bc;rw [if_pos rfl] at H;obtain rfl := Option.some.inj H;go_wp2;go_ret;exact ⟨YR,ZQ HB⟩
       replace bc := Bool.eq_false_iff.mpr bc;subst bc;rw [if_neg (show ¬ (false = true) by decide)] at H;replace H := YM H;obtain ⟨bv,H⟩ := H;have bI := eq_true bv;have bJ := decide_eq_true bv;clear bv;replace H := YM H;obtain ⟨bw,H⟩ := H;have bK := eq_true bw;have bL := decide_eq_true bw;clear bw;obtain ⟨D,ad⟩ : ∃ y_ : List (S41),y_ = (l0.take (i : Int).toNat) := ⟨_,rfl⟩;replace H : ((FZ.f D ((rd_T41 l0 i).f0)).bind fun am => (if am = true then (some false) else (Fl.l0 aB l0 l0 (l0.length : Int) (wrap64 (i + 1))))) = some r := YH ad H;have X := ZA ad;clear ad;replace H := YJ H;obtain ⟨am,bM,H⟩ := H;by_cases bd : am = true
       ·subst bd;rw [if_pos rfl] at H;obtain rfl := Option.some.inj H;have bx : (i : Int) <= ((l0.length : Int) : Int) := ZD;obtain ⟨b1,ah,_,aC,_⟩ := info_parts info41;have Y : l0.length <= c0 := bC.out;have aD : Kd.C k41 _ (some v) l0.length l0 := bf.out;have an := Eea (P := Tryz.prog) 24 41 .i64 Tryz.underlying24 ah (some v) l0.length c0 i ZD bx Y;have ao := Kd.Edh (m := (i : Int).toNat) aD (by omega);have ap : D.length = (i : Int).toNat := (by rw [X.out,List.length_take];omega);rw [<- X.out] at ao;rw [<- ap] at an;have ae := ZA ao;have af := ZA (show D.length <= c0 from by omega);clear ao aD Y ah aC;have b2 := ZA ap;clear ap;replace bx := eq_true bx
        go_wp2_with (first|((with_reducible refine Eaz (f := 129) rfl ?_);refine Ed (some 55) rfl rfl Tryz.func129 (by kernel_rfl) rfl #[.slice (some v) D.length c0,.func (.func 130) #[] #[.pointer (some ⟨j,0,none⟩)]] rfl (by (try simp only [List.map_toArray,List.map_cons,List.map_nil]);first|done|rfl|(simp only [List.length_drop,List.length_take];rfl)) ?_;(with_reducible refine (FZ.calls _ _ D ((rd_T41 l0 i).f0) true _ (ZR (Kd.Eab ae.out HB.out)) af.out ((Ebo (cs := #[.string ((rd_T41 l0 i).f0),.slice p ((rd_T41 l0 i).f1).length q,.int .i64 ((rd_T41 l0 i).f2)]) (t := 41) (ZH d) 0).trans rfl) bM.out).mono ?_);rintro e ca ⟨rfl,hb⟩;refine ⟨_,rfl,?_⟩;replace d := ZA (Eac (ZH d) hb);replace HB := BS HB hb))
        go_ret;exact ⟨YR,ZQ HB⟩
       replace bd := Bool.eq_false_iff.mpr bd;subst bd;rw [if_neg (show ¬ (false = true) by decide)] at H;have H' := ZA H;clear H;have bz : (i : Int) <= ((l0.length : Int) : Int) := ZD;obtain ⟨b3,ai,_,aE,_⟩ := info_parts info41;have Z : l0.length <= c0 := bC.out;have aF : Kd.C k41 _ (some v) l0.length l0 := bf.out;have aq := Eea (P := Tryz.prog) 24 41 .i64 Tryz.underlying24 ai (some v) l0.length c0 i ZD bz Z;have ar := Kd.Edh (m := (i : Int).toNat) aF (by omega);have au : D.length = (i : Int).toNat := (by rw [X.out,List.length_take];omega);rw [<- X.out] at ar;rw [<- au] at aq;have ae := ZA ar;have af := ZA (show D.length <= c0 from by omega);clear ar aF Z ai aE;have b4 := ZA au;clear au;replace bz := eq_true bz
       go_wp2_with (first|((with_reducible refine Eaz (f := 129) rfl ?_);refine Ed (some 55) rfl rfl Tryz.func129 (by kernel_rfl) rfl #[.slice (some v) D.length c0,.func (.func 130) #[] #[.pointer (some ⟨j,0,none⟩)]] rfl (by (try simp only [List.map_toArray,List.map_cons,List.map_nil]);first|done|rfl|(simp only [List.length_drop,List.length_take];rfl)) ?_;(with_reducible refine (FZ.calls _ _ D ((rd_T41 l0 i).f0) false _ (ZR (Kd.Eab ae.out HB.out)) af.out ((Ebo (cs := #[.string ((rd_T41 l0 i).f0),.slice p ((rd_T41 l0 i).f1).length q,.int .i64 ((rd_T41 l0 i).f2)]) (t := 41) (ZH d) 0).trans rfl) bM.out).mono ?_);rintro e cb ⟨rfl,hb⟩;refine ⟨_,rfl,?_⟩;replace d := ZA (Eac (ZH d) hb);replace HB := BS HB hb))
       go_roundg aB
       case measure => have := ag.out;have := ba.out;have := aA.out;omega
       case rel => exact ⟨(wrap64 (i + 1)),ZG,H',⟨by have := ag.out;have := ba.out;have := aA.out;omega⟩,⟨ZQ HB⟩⟩
def Lb.f (a1 : Int) : Option (List Int) := if 0 <= a1 then (if a1 < 17592186044416 then some [] else none) else none
set_option maxHeartbeats 1000000
open RowKit Lib W.PrintWords W.PrintLast W.PrintMore W Q W.GCall
set_option maxHeartbeats 1000000 in
set_option maxRecDepth 100000 in
theorem Lb.calls (a1 : Int) (r : List Int) (w : World) (h : Lb.f a1 = some r) :
  Calls Tryz.prog 141 #[.slice none 0 0,.int .i64 a1] w fun e w' => ∃ g : Value,e = .returned g ∧ Kd.R (Kd.int .i64) 3 w' w.heap.size (fun _ => True) g r ∧ Below w.heap.size w w' := by
 unfold Lb.f at h
 split at h
 ·rename_i h0
  split at h
  ·rename_i h1
   obtain rfl := Option.some.inj h;have d0 : decide (a1 < 0) = false := decide_eq_false (by omega);have i : wrap64 a1 = a1 := by unfold wrap64;omega
   have j : IntKind.i64.wrap a1 = a1 := by rw [Eay];exact i
   have HB := ZA (Below.refl w.heap.size w);by_cases h2 : 0 < a1;rotate_left
   ·have d1 : decide (0 < a1) = false := decide_eq_false h2;clear h h0 h1 h2;go_enter Tryz.func141,Tryz.ntmps141;go_wp2;go_ret;exact ⟨_,rfl,Kd.Edv _ _ _ _ _,(ZQ HB)⟩
   have d1 : decide (0 < a1) = true := decide_eq_true h2;have H1 := ZA h1;have H0 := ZA h0;clear h h0 h1 h2;go_enter Tryz.func141,Tryz.ntmps141
   go_wp2_with ((with_reducible refine Eal (b := .append) (xs := #[.tmp 20,.tmp 21]) rfl ?_);at_builtin;refine Kd.Egq (Kd.int .i64) (w0 := w) w.heap.size rfl (.tmp 20) (.tmp 21) 28 3 3 (.int .i64 0) 8 rfl Tryz.underlying28 Tryz.underlying3 info3 rfl (by decide) (by omega) (.slice none 0 0) [] 0 a1 (fun _ => True) rfl rfl rfl (fun _ _ => trivial) (Kd.Edv _ _ _ _ _) H0.out (ZQ HB) (SZ HB) (by have := H1.out;have := H0.out;simp;omega) ?_;intro v1 w1 ho hb hg hat;obtain ⟨g1,d,rfl,aa⟩ : ∃ g1 d,v1 = .slice (some ⟨g1,0,none⟩) ([] ++ List.replicate a1.toNat (0 : Int)).length d ∧ 0 <= d := (by rcases GDel.Enp ho with ⟨h3,_⟩ | ⟨g1,d,h3,_⟩;(exfalso;have := congrArg List.length h3;have h9 := of_decide_eq_true d1;rw [<- j] at h9;simp at this;omega);exact ⟨g1,d,h3,Nat.zero_le _⟩))
   go_ret;exact ⟨_,rfl,GDel.Elj ho (Nat.zero_le _),hb⟩
  cases h
 cases h
mutual
def Fq.l0 : Nat -> List (List Int) -> Int -> List (List Int) -> Int -> Int -> Option (List Int)
 | 0,_,_,_,_,_ => none
 | k + 1,x0,x3,x9,i,d => if d < i then (if 0 <= d then (if d < (x9.length : Int) then (if (wrap64 (x3 + ((rd_L2 x9 d).length : Int))) < 0 then (none) else (Fq.l0 k x0 (wrap64 (x3 + ((rd_L2 x9 d).length : Int))) x9 i (wrap64 (d + 1)))) else (none)) else (none)) else ((Lb.f x3).bind fun g => (Fq.l1 k g x0 (x0.length : Int) 0))
def Fq.l1 : Nat -> List Int -> List (List Int) -> Int -> Int -> Option (List Int)
 | 0,_,_,_,_ => none
 | k + 1,x6,f,g,d => if d < g then (if 0 <= d then (if d < (f.length : Int) then (if x6.length + (rd_L2 f d).length < 17592186044416 then (Fq.l1 k (x6 ++ (rd_L2 f d)) f g (wrap64 (d + 1))) else (none)) else (none)) else (none)) else (some x6)
end
def Fq.f (k : Nat) (l0 : List (List Int)) : Option (List Int) := Fq.l0 k l0 0 l0 (l0.length : Int) 0
set_option maxHeartbeats 3000000 in
set_option maxRecDepth 100000 in
theorem Fq.calls (k : Nat) (A0 : Option Addr) (c0 : Nat) (l0 : List (List Int)) (r : List Int) (w : World) (aj : Kd.C (Kd.slice 3 (Kd.int .i64)) w A0 l0.length l0) (ak : l0.length <= c0) (h : Fq.f k l0 = some r) :
  Calls Tryz.prog 86 #[.slice A0 l0.length c0] w fun e w' => ∃ al : Value,e = .returned (al) ∧ Kd.R (Kd.int .i64) 3 w' w.heap.size (fun _ => True) al r ∧ Below w.heap.size w w' := by
 have am := ZA aj;have aD := ZA ak;clear aj ak;have HB := ZA (Below.refl w.heap.size w);have H : (Fq.l0 k l0 0 l0 (l0.length : Int) 0) = some r := h;clear h;have H' := ZA H;clear H;go_enter Tryz.func86,Tryz.ntmps86;go_wp2
 go_loopg [3,11] k (fun kq v3 au w' => ∃ (i : Int) (d : Int),v3 = .int .i64 i ∧ au = .int .i64 d ∧ Aside0 (Fq.l0 kq l0 i l0 (l0.length : Int) d = some r) ∧ Aside0 (kq <= k) ∧ Aside0 (Below w.heap.size w w'))
 case atStart => exact ⟨(0),(0),ZG,ZG,H',⟨Nat.le_refl _⟩,⟨ZQ HB⟩⟩
 case round =>
  clear H';obtain ⟨i,d,rfl,rfl,HA,X,HB⟩ := hrel;cases gk with
  | zero => exact absurd HA.out (by simp [Fq.l0])
  | succ k1 =>
   have H := HA.out;clear HA;simp only [Fq.l0] at H;by_cases c2 : d < (l0.length : Int)
   ·rw [if_pos c2] at H;have Y := decide_eq_true c2;clear c2;replace H := YN H;obtain ⟨av,H⟩ := H;replace H := YN H;obtain ⟨aw,H⟩ := H;by_cases c5 : (wrap64 (i + ((rd_L2 l0 d).length : Int))) < 0
    ·rw [if_pos c5] at H;exact absurd H (by simp)
    rw [if_neg c5] at H;have ax := decide_eq_false c5;clear c5;have H' := ZA H;clear H;have v : 0 <= (d : Int) := ZD;have y : d < (l0.length : Int) := ZD;obtain ⟨an,ad,ae,Z,j,m,n⟩ := at_L2 am.out d v y;cases Z;replace j := ZX HB j;have aa := ZA n;have ab := ZA m;clear n m;replace v := eq_true v;replace y := eq_true y;go_wp2
    go_roundg k1
    case measure => have := X.out;omega
    case rel => exact ⟨(wrap64 (i + ((rd_L2 l0 d).length : Int))),(wrap64 (d + 1)),ZG,ZG,H',⟨by have := X.out;omega⟩,⟨ZQ HB⟩⟩
   rw [if_neg c2] at H;have Y := decide_eq_false c2;clear c2;replace H := YJ H;obtain ⟨G,A6,H⟩ := H;have H' := ZA H;clear H
   go_wp2_with (first|((with_reducible refine YG 141 ?_);refine YC (some 24) Tryz.func141 #[.slice none 0 0,.int .i64 i] (Lb.calls i G _ A6.out) ?_;rintro e w7 ⟨ay,rfl,az,hb⟩;refine ⟨_,rfl,?_⟩;have I := ZA (Kd.Eas az (SZ HB));replace HB := BS HB hb))
   go_loopg [6,27] k1 (fun kq v6 aA w' => ∃ (s : List Int) (g : Int),aA = .int .i64 g ∧ Aside0 (Fq.l1 kq s l0 (l0.length : Int) g = some r) ∧ Aside0 (kq <= k1) ∧ Aside0 (Kd.R (Kd.int .i64) 3 w' w.heap.size (fun _ => True) v6 s) ∧ Aside0 (Below w.heap.size w w'))
   case atStart => exact ⟨(G),(0),ZG,H',⟨Nat.le_refl _⟩,⟨ZK I⟩,⟨ZQ HB⟩⟩
   case round =>
    clear H';obtain ⟨s,g,rfl,HA,ao,z,HB⟩ := hrel;cases gk with
    | zero => exact absurd HA.out (by simp [Fq.l1])
    | succ k2 =>
     have H := HA.out;clear HA;simp only [Fq.l1] at H;replace H := YI H;rcases H with ⟨af,H⟩|⟨af,H⟩;rotate_left
     ·obtain rfl := Option.some.inj H;go_wp2;go_ret;exact ⟨_,YR,ZK z,ZQ HB⟩
     replace H := YN H;obtain ⟨aB,H⟩ := H;replace H := YN H;obtain ⟨ap,H⟩ := H;replace H := YM H;obtain ⟨aq,H⟩ := H;have J := ZA aq;clear aq;obtain ⟨M,t⟩ : ∃ y_ : List Int,y_ = (s ++ (rd_L2 l0 g)) := ⟨_,rfl⟩;replace H : (Fq.l1 k2 M l0 (l0.length : Int) (wrap64 (g + 1))) = some r := YH t H;have U := ZA t;clear t;have H' := ZA H;clear H;have D : 0 <= (g : Int) := ZD;have E : g < (l0.length : Int) := ZD;obtain ⟨ar,ag,ah,ai,o,p,q⟩ := at_L2 am.out g D E;cases ai;replace o := ZX HB o;have u := ZA q;have ac := ZA p;clear q p;replace D := eq_true D;replace E := eq_true E
     go_wp2_with (first|((with_reducible refine Eal (b := .append) (xs := #[.tmp 31,.tmp 32]) rfl ?_);at_builtin;refine Kd.Ebd (Kd.int .i64) (w0 := w) w.heap.size rfl (.tmp 31) (.tmp 32) 28 3 (.int .i64 0) 8 rfl Tryz.underlying28 info3 rfl (by decide) (by omega) u6 s (rd_L2 l0 g) _ _ _ (fun _ => True) (fun _ => False) rfl rfl (ZK z) (ZR (Kd.Eab u.out HB.out)) (fun _ _ h => h) (fun _ h => h.elim) (fun _ _ => trivial) (ZQ HB) (SZ HB) ?aL ?_;(case aL => have := J.out;omega);intro aC aE ho hb hg hat;rw [<- U.out] at ho;replace HB := ZA (hb);have V := ZA (ho);clear z;clear ho hb hg hat))
     go_roundg k2
     case measure => have := X.out;have := ao.out;omega
     case rel => exact ⟨(M),(wrap64 (g + 1)),ZG,H',⟨by have := X.out;have := ao.out;omega⟩,⟨ZK V⟩,⟨ZQ HB⟩⟩
end Go.Proofs.YtgnijnlgbelifaaGreat.Q
