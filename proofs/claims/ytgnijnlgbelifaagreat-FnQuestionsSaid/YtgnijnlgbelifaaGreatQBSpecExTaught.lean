import Derived.Test.YtgnijnlgbelifaaGreatQSpecExMake
import Derived.Test.YtgnijnlgbelifaaGreatGUp
import Derived.Test.YtgnijnlgbelifaaGreatS156
import Derived.Lib.Join
namespace Go.Proofs.YtgnijnlgbelifaaGreat.Q
open Go.RowKit Go.Proofs.YtgnijnlgbelifaaGreatW.PrintWords Go.Proofs.YtgnijnlgbelifaaGreatW.PrintLast Go.Proofs.YtgnijnlgbelifaaGreatW.PrintMore Go.Proofs.YtgnijnlgbelifaaGreatW.GCall
attribute [local go_sem] Ebu Ebv Ecl Ecm Ebk Ebl Ebw Ebx
set_option linter.unusedVariables false
set_option linter.unusedSimpArgs false
mutual
def Fm.l0 : Nat -> List Int -> List (List Int) -> Int -> Int -> Option (List Int)
 | 0,_,_,_,_ => none
 | k + 1,x5,f,g,d => if d < g then (if 0 <= d then (if d < (f.length : Int) then (Fm.l1 k x5 f g d (rd_L2 f d) ((rd_L2 f d).length : Int) 0) else (none)) else (none)) else (some x5)
def Fm.l1 : Nat -> List Int -> List (List Int) -> Int -> Int -> List Int -> Int -> Int -> Option (List Int)
 | 0,_,_,_,_,_,_,_ => none
 | k + 1,x5,j,m,n,g,o,d => if d < o then (if 0 <= d then (if d < (g.length : Int) then ((Fs.f k x5 (rd g d)).bind fun i => (Fm.l1 k i j m n g o (wrap64 (d + 1)))) else (none)) else (none)) else (Fm.l0 k x5 j m (wrap64 (n + 1)))
end
def Fm.f (k : Nat) (l0 : List (List Int)) (a1 : Int) : Option (List Int) := if 0 <= a1 then (if a1 <= (l0.length : Int) then ((some (l0.take (a1 : Int).toNat : List (List Int))).bind fun d => (Fm.l0 k ([] : List Int) d (d.length : Int) 0)) else (none)) else (none)
set_option maxHeartbeats 3000000 in
set_option maxRecDepth 100000 in
theorem Fm.calls (k : Nat) (A0 : Option Addr) (c0 : Nat) (l0 : List (List Int)) (a1 : Int) (r : List Int) (w : World) (ao : Kd.C (Kd.slice 3 (Kd.int .i64)) w A0 l0.length l0) (ap : l0.length <= c0) (h : Fm.f k l0 a1 = some r) :
  Calls Tryz.prog 67 #[.slice A0 l0.length c0,.int .i64 a1] w fun e w' => ∃ aq : Value,e = .returned (aq) ∧ Kd.V (Kd.int .i64) 3 w' w.heap.size (fun k_ => (w.heap.size <= k_)) aq r ∧ Below w.heap.size w w' := by
 have az := ZA ao;have aA := ZA ap;clear ao ap;have HB := ZA (Below.refl w.heap.size w);have H := h;clear h;unfold Fm.f at H;replace H := YM H;obtain ⟨c3,H⟩ := H;have aB := eq_true c3;have aC := decide_eq_true c3;clear c3;replace H := YM H;obtain ⟨c4,H⟩ := H;have aD := eq_true c4;have aE := decide_eq_true c4;clear c4;obtain ⟨g,t⟩ : ∃ y_ : List (List Int),y_ = (l0.take (a1 : Int).toNat) := ⟨_,rfl⟩;replace H : (Fm.l0 k ([] : List Int) g (g.length : Int) 0) = some r := YH t H;have z := ZA t;clear t;have H' := ZA H;clear H;have q5 : (a1 : Int) <= ((l0.length : Int) : Int) := ZD;obtain ⟨aM,J,_,ac,_⟩ := info_parts info28;have u : l0.length <= c0 := aA.out;have ar : Kd.C (Kd.slice 3 (Kd.int .i64)) _ A0 l0.length l0 := az.out;have M := Edh (P := Tryz.prog) 25 28 .i64 Tryz.underlying25 J A0 l0.length c0 a1 ZD q5 u;have ad := Kd.Edb (m := (a1 : Int).toNat) ar (by omega);have ae : g.length = (a1 : Int).toNat := (by rw [z.out,List.length_take];omega);rw [<- z.out] at ad;rw [<- ae] at M;have U := ZA ad;have au := ZA (show g.length <= c0 from by omega);clear ad ar u J ac;have aN := ZA ae;clear ae;replace q5 := eq_true q5;go_enter Tryz.func67,Tryz.ntmps67;go_wp2
 go_loopg [5,14] k (fun kq v5 aF w' => ∃ (v : List Int) (d : Int),aF = .int .i64 d ∧ Aside0 (Fm.l0 kq v g (g.length : Int) d = some r) ∧ Aside0 (kq <= k) ∧ Aside0 (Kd.V (Kd.int .i64) 3 w' w.heap.size (fun k_ => (w.heap.size <= k_)) v5 v) ∧ Aside0 (Below w.heap.size w w'))
 case atStart => exact ⟨(([] : List Int)),(0),ZG,H',⟨Nat.le_refl _⟩,⟨Kd.Eei _ _ _ _ _⟩,⟨ZQ HB⟩⟩
 case round =>
  clear H';obtain ⟨v,d,rfl,HA,Z,j,HB⟩ := hrel;cases gk with
  | zero => exact absurd HA.out (by simp [Fm.l0])
  | succ k1 =>
   have H := HA.out;clear HA;simp only [Fm.l0] at H;replace H := YI H;rcases H with ⟨af,H⟩|⟨af,H⟩;rotate_left
   ·obtain rfl := Option.some.inj H;go_wp2;go_ret;exact ⟨_,YR,ZKV j,ZQ HB⟩
   replace H := YN H;obtain ⟨aG,H⟩ := H;replace H := YN H;obtain ⟨aH,H⟩ := H;have H' := ZA H;clear H;have D : 0 <= (d : Int) := ZD;have E : d < (g.length : Int) := ZD;obtain ⟨av,ag,ah,ai,n,o,p⟩ := at_L2 U.out d D E;cases ai;replace n := ZX HB n;have y := ZA p;have aa := ZA o;clear p o;replace D := eq_true D;replace E := eq_true E;go_wp2
   go_loopg [5,20] k1 (fun kq v5 aI w' => ∃ (s : List Int) (i : Int),aI = .int .i64 i ∧ Aside0 (Fm.l1 kq s g (g.length : Int) d (rd_L2 g d) ((rd_L2 g d).length : Int) i = some r) ∧ Aside0 (kq <= k1) ∧ Aside0 (Kd.V (Kd.int .i64) 3 w' w.heap.size (fun k_ => (w.heap.size <= k_)) v5 s) ∧ Aside0 (Below w.heap.size w w'))
   case atStart => exact ⟨(v),(0),ZG,H',⟨Nat.le_refl _⟩,⟨ZKV j⟩,⟨ZQ HB⟩⟩
   case round =>
    clear H';obtain ⟨s,i,rfl,HA,ab,j,HB⟩ := hrel;cases gk with
    | zero => exact absurd HA.out (by simp [Fm.l1])
    | succ k2 =>
     have H := HA.out;clear HA;simp only [Fm.l1] at H;replace H := YI H;rcases H with ⟨aj,H⟩|⟨aj,H⟩;rotate_left
     ·have H' := ZA H;clear H;go_wp2
      go_roundg k2
      case measure => have := Z.out;have := ab.out;omega
      case rel => exact ⟨(s),(wrap64 (d + 1)),ZG,H',⟨by have := Z.out;have := ab.out;omega⟩,⟨ZKV j⟩,⟨ZQ HB⟩⟩
     replace H := YN H;obtain ⟨aw,H⟩ := H;replace H := YN H;obtain ⟨ax,H⟩ := H;replace H := YJ H;obtain ⟨X,aJ,H⟩ := H;have H' := ZA H;clear H;have G : 0 <= (i : Int) := ZD;have I : i < ((rd_L2 g d).length : Int) := ZD;obtain ⟨ay,ak,q⟩ := Kd.Eav y.out i G I;cases ak;replace q := ZX HB q;replace G := eq_true G;replace I := eq_true I;obtain ⟨al,am,an⟩ := Kd.Edk j.out;subst an
     go_wp2_with (first|((with_reducible refine YG 98 ?_);refine YC (some 26) Tryz.func98 #[.slice al s.length am,.int .i64 (rd (rd_L2 g d) i)] (Fs.calls k2 (fun k_ => (w.heap.size <= k_)) _ _ s (rd (rd_L2 g d) i) X _ j.out aJ.out) ?_;rintro e aO ⟨aK,rfl,aL,hb⟩;refine ⟨_,rfl,?_⟩;replace j := ZBV j hb;have Y := ZA (Kd.Edq (Kd.Eat (ok' := fun k_ => (w.heap.size <= k_)) aL (fun k_ hk_ => Or.elim hk_ (fun hs_ => hs_) (fun hn_ => (Nat.le_trans (SZ HB) hn_)))) (SZ HB));replace HB := BS HB hb))
     go_roundg k2
     case measure => have := Z.out;have := ab.out;omega
     case rel => exact ⟨(X),(wrap64 (i + 1)),ZG,H',⟨by have := Z.out;have := ab.out;omega⟩,⟨ZKV Y⟩,⟨ZQ HB⟩⟩
def Fy.j0 : Nat -> List (S41) -> List (List Int) -> Int -> Int -> Int -> Bool -> Option (Int × List Int × Bool)
 | 0,_,_,_,_,_,_ => none
 | k + 1,x0,x1,x2,x3,x4,i => if i = true then (some (0,([] : List Int),false)) else ((Fm.f k x1 x2).bind fun g => ((Fk.f k x0 g x3 x4).bind fun d => (some (d.1,d.2.1,d.2.2))))
def Fy.f (k : Nat) (l0 : List (S41)) (l1 : List (List Int)) (a2 : Int) (a3 : Int) (a4 : Int) : Option (Int × List Int × Bool) := (FV.f k l0 l1 a2).bind fun d => (if d = true then ((FM.f a3 0 (wrap64 ((l0.length : Int) - 1))).bind fun g => (if g = true then ((FM.f a4 2 4).bind fun i => (Fy.j0 k l0 l1 a2 a3 a4 (!i))) else (Fy.j0 k l0 l1 a2 a3 a4 true))) else (Fy.j0 k l0 l1 a2 a3 a4 true))
set_option maxHeartbeats 3000000 in
set_option maxRecDepth 100000 in
theorem Fy.calls (k : Nat) (A0 : Option Addr) (c0 : Nat) (l0 : List (S41)) (A1 : Option Addr) (c1 : Nat) (l1 : List (List Int)) (a2 : Int) (a3 : Int) (a4 : Int) (r1 : Int) (r2 : List Int) (r3 : Bool) (w : World) (Z : Kd.C k41 w A0 l0.length l0) (ai : l0.length <= c0) (aj : Kd.C (Kd.slice 3 (Kd.int .i64)) w A1 l1.length l1) (ak : l1.length <= c1) (h : Fy.f k l0 l1 a2 a3 a4 = some (r1,r2,r3)) :
  Calls Tryz.prog 9 #[.slice A0 l0.length c0,.slice A1 l1.length c1,.int .i64 a2,.int .i64 a3,.int .i64 a4] w fun e w' => ∃ al : Value,e = .returned (.tuple #[.agg #[.int .i64 r1,al],.bool r3]) ∧ Kd.V (Kd.int .i64) 3 w' w.heap.size (fun k_ => (w.heap.size <= k_)) al r2 ∧ Below w.heap.size w w' := by
 have ar := Tryz.underlying30;have v := ZA Z;have y := ZA ai;clear Z ai;have z := ZA aj;have D := ZA ak;clear aj ak;have HB := ZA (Below.refl w.heap.size w);have H := h;clear h;unfold Fy.f at H;have G := ZA H;clear H;go_enter Tryz.func9,Tryz.ntmps9
 go_upto_region 1 with (first|((with_reducible refine Eaf (N := 10) rfl ?_);(try (refine Ean (by rfl) ?_;dsimp only));refine ZE 10 #[.int .i64 0,.slice none 0 0] 30 ?_;intro g hg w7 hbox hb;have d := ZA (hbox);have am := YQ hg HB;have an := YQ hg HB;replace HB := BS HB hb;clear hb hbox hg))
 (try simp only [Act.put,zuA,zuB,zuC])
 go_cut [29] (fun au wc => ∃ (kq : Nat) (j : Bool),au = .bool j ∧ Aside0 (Fy.j0 kq l0 l1 a2 a3 a4 j = some (r1,r2,r3)) ∧ Aside0 (kq <= k) ∧ Aside0 (wc.heap[g]? = some (.cells #[.int .i64 0,(.slice none 0 0)] 30 (0,0))) ∧ Aside0 (Below w.heap.size w wc))
 case first =>
  have H := G.out;clear G;replace H := YJ H;obtain ⟨av,A8,H⟩ := H;replace H := YF H;rcases H with ⟨rfl,H⟩|⟨rfl,H⟩;rotate_left
  ·have H' := ZA H;clear H
   go_wp2_with (first|((with_reducible refine YG 64 ?_);refine YC (some 15) Tryz.func64 #[.slice A0 l0.length c0,.slice A1 l1.length c1,.int .i64 a2] (FV.calls k _ _ l0 _ _ l1 a2 false _ (ZR (Kd.Eac v.out HB.out)) y.out (ZR (Kd.Eac z.out HB.out)) D.out A8.out) ?_;rintro e aC ⟨rfl,hb⟩;refine ⟨_,rfl,?_⟩;replace d := ZA (Eaa (ZH d) hb);replace HB := BS HB hb))
   go_meet
   case rel => exact ⟨_,(true),ZG,H',⟨YO⟩,⟨ZH d⟩,⟨ZQ HB⟩⟩
  replace H := YJ H;obtain ⟨aw,ao,H⟩ := H;replace H := YF H;rcases H with ⟨rfl,H⟩|⟨rfl,H⟩;rotate_left
  ·have H' := ZA H;clear H
   go_wp2_with (first|((with_reducible refine YG 64 ?_);refine YC (some 15) Tryz.func64 #[.slice A0 l0.length c0,.slice A1 l1.length c1,.int .i64 a2] (FV.calls k _ _ l0 _ _ l1 a2 true _ (ZR (Kd.Eac v.out HB.out)) y.out (ZR (Kd.Eac z.out HB.out)) D.out A8.out) ?_;rintro e aD ⟨rfl,hb⟩;refine ⟨_,rfl,?_⟩;replace d := ZA (Eaa (ZH d) hb);replace HB := BS HB hb)|(go_at_call 65;(with_reducible refine (FM.calls a3 0 (wrap64 ((l0.length : Int) - 1)) false _ ao.out).mono ?_);rintro e w' ⟨rfl,⟨nd,rfl⟩⟩))
   go_meet
   case rel => exact ⟨_,(true),ZG,H',⟨YO⟩,⟨ZH d⟩,⟨ZQ HB⟩⟩
  replace H := YJ H;obtain ⟨s,ax,H⟩ := H;have H' := ZA H;clear H
  go_wp2_with (first|((with_reducible refine YG 64 ?_);refine YC (some 15) Tryz.func64 #[.slice A0 l0.length c0,.slice A1 l1.length c1,.int .i64 a2] (FV.calls k _ _ l0 _ _ l1 a2 true _ (ZR (Kd.Eac v.out HB.out)) y.out (ZR (Kd.Eac z.out HB.out)) D.out A8.out) ?_;rintro e aE ⟨rfl,hb⟩;refine ⟨_,rfl,?_⟩;replace d := ZA (Eaa (ZH d) hb);replace HB := BS HB hb)|(go_at_call 65;(with_reducible refine (FM.calls a3 0 (wrap64 ((l0.length : Int) - 1)) true _ ao.out).mono ?_);rintro e w' ⟨rfl,⟨nd,rfl⟩⟩)|(go_at_call 65;(with_reducible refine (FM.calls a4 2 4 s _ ax.out).mono ?_);rintro e w' ⟨rfl,⟨nd,rfl⟩⟩))
  go_meet
  case rel => exact ⟨_,(!s),ZG,H',⟨YO⟩,⟨ZH d⟩,⟨ZQ HB⟩⟩
 case rest =>
  clear G;obtain ⟨kq,j,rfl,HA,aF,d,HB⟩ := hcut;cases kq with
  | zero => exact absurd HA.out (by simp [Fy.j0])
  | succ ap =>
   have H := HA.out;clear HA;simp only [Fy.j0] at H;by_cases E : j = true
   ·subst E;rw [if_pos rfl] at H;simp only [Option.some.injEq,Prod.mk.injEq] at H;obtain ⟨rfl,rfl,rfl⟩ := H;have aa : wc.cell? ⟨g,0,none⟩ = some (.int .i64 0) := ZC d 0 rfl;have ab : wc.cell? ⟨g,1,none⟩ = some (.slice none 0 0) := ZC d 1 rfl;have ac := Ea d.out 0;have ad := Ea d.out 1;go_wp2;refine bodyPost_ret (Ecf rfl _ _ g 30 #[.int .i64 0,.slice none 0 0] (0,0) _ rfl (by refine ZY ?_;refine Eae (cs := #[.int .i64 0,.slice none 0 0]) ?_ 1 _ rfl;refine ZY ?_;refine Eae (cs := #[.int .i64 0,.slice none 0 0]) ?_ 0 _ rfl;refine ZY ?_;exact d.out) Tryz.underlying30 rfl (by kernel_rfl)) rfl ?_;exact ⟨_,YR,Kd.Eei _ _ _ _ _,ZQ HB⟩
   replace E := Bool.eq_false_iff.mpr E;subst E;rw [if_neg (show ¬ (false = true) by decide)] at H;replace H := YJ H;obtain ⟨o,ay,H⟩ := H;replace H := YJ H;obtain ⟨⟨m,q,I⟩,az,H⟩ := H;try dsimp only at H
   simp only [Option.some.injEq,Prod.mk.injEq] at H;obtain ⟨rfl,rfl,rfl⟩ := H
   go_wp2_with (first|((with_reducible refine YG 67 ?_);refine YC (some 34) Tryz.func67 #[.slice A1 l1.length c1,.int .i64 a2] (Fm.calls ap _ _ l1 a2 o _ (ZR (Kd.Eac z.out HB.out)) D.out ay.out) ?_;rintro e aG ⟨aA,rfl,J,hb⟩;refine ⟨_,rfl,?_⟩;have i := ZA (Kd.Edq (Kd.Eat (ok' := fun k_ => (w.heap.size <= k_) ∧ k_ ≠ g) J (fun k_ hk_ => ⟨(Nat.le_trans (SZ HB) hk_),(Kd.Ebr (ZH d) k_ hk_)⟩)) (SZ HB));replace d := ZA (Eaa (ZH d) hb);replace HB := BS HB hb;obtain ⟨M,U,X⟩ := Kd.Edk i.out;subst X)|((with_reducible refine YG 66 ?_);refine YC (some 37) Tryz.func66 #[.slice A0 l0.length c0,.slice M o.length U,.int .i64 a3,.int .i64 a4] (Fk.calls ap _ _ l0 _ _ o a3 a4 m q I _ (ZR (Kd.Eac v.out HB.out)) y.out (WV i) (CV i) az.out) ?_;rintro e aq ⟨aB,rfl,J,hb⟩;refine ⟨_,rfl,?_⟩;replace i := ZBV i hb;have n := ZA (Kd.Edq (Kd.Eat (ok' := fun k_ => (w.heap.size <= k_) ∧ k_ ≠ g) J (fun k_ hk_ => ⟨(Nat.le_trans (SZ HB) hk_),(Kd.Ebr (ZH d) k_ hk_)⟩)) (SZ HB));replace d := ZA (Eaa (ZH d) hb);replace HB := BS HB hb;have ae : aq.cell? ⟨g,0,none⟩ = some (.int .i64 0) := ZC d 0 rfl;have af : aq.cell? ⟨g,1,none⟩ = some (.slice none 0 0) := ZC d 1 rfl;have ag := Ea d.out 0;have ah := Ea d.out 1;obtain ⟨t,u,Y⟩ := Kd.Edk n.out;subst Y))
   refine bodyPost_ret (Ecf rfl _ _ g 30 #[.int .i64 m,.slice t q.length u] (0,0) _ rfl (by refine ZY ?_;refine Eae (cs := #[.int .i64 m,.slice none 0 0]) ?_ 1 _ rfl;refine ZY ?_;refine Eae (cs := #[.int .i64 0,.slice none 0 0]) ?_ 0 _ rfl;refine ZY ?_;exact d.out) Tryz.underlying30 rfl (by kernel_rfl)) rfl ?_;exact ⟨_,YR,ZKV ⟨Kd.Eat (Kd.Ebq (p := ⟨g,1,none⟩) (Kd.Ebq (p := ⟨g,0,none⟩) (Kd.Eat n.out (fun k_ hk => (⟨hk,hk.2⟩ : _ ∧ k_ ≠ g))) (fun _ hk => hk.2) (.int .i64 m)) (fun _ hk => hk.2) (.slice t q.length u)) (fun _ hk => hk.1.1)⟩,ZQ HB⟩
def FJ.l0 : Nat -> List Int -> List Int -> Int -> Int -> Option (Bool)
 | 0,_,_,_,_ => none
 | k + 1,x0,x1,f,d => if d < f then (if 0 <= d then (if d < (x0.length : Int) then (if d < (x1.length : Int) then (if (rd x0 d) = (rd x1 d) then (FJ.l0 k x0 x1 f (wrap64 (d + 1))) else (some false)) else (none)) else (none)) else (none)) else (some true)
def FJ.f (k : Nat) (l0 : List Int) (l1 : List Int) : Option (Bool) := if (l0.length : Int) = (l1.length : Int) then (FJ.l0 k l0 l1 (l0.length : Int) 0) else (some false)
set_option maxHeartbeats 3000000 in
set_option maxRecDepth 100000 in
theorem FJ.calls (k : Nat) (A0 : Option Addr) (c0 : Nat) (l0 : List Int) (A1 : Option Addr) (c1 : Nat) (l1 : List Int) (r : Bool) (w : World) (G : Kd.C (Kd.int .i64) w A0 l0.length l0) (I : l0.length <= c0) (J : Kd.C (Kd.int .i64) w A1 l1.length l1) (M : l1.length <= c1) (h : FJ.f k l0 l1 = some r) :
  Calls Tryz.prog 10 #[.slice A0 l0.length c0,.slice A1 l1.length c1] w fun e w' => e = .returned (.bool r) ∧ Drawn0 w w' := by
 have U := ZA G;have ad := ZA I;clear G I;have V := ZA J;have ae := ZA M;clear J M;have H : (if (l0.length : Int) = (l1.length : Int) then (FJ.l0 k l0 l1 (l0.length : Int) 0) else (some false)) = some r := h;clear h;by_cases c3 : (l0.length : Int) = (l1.length : Int);rotate_left
 ·rw [if_neg c3] at H;have u : ((l0.length : Int) == (l1.length : Int)) = false := beq_eq_false_iff_ne.mpr c3;have v : ((l0.length : Int) != (l1.length : Int)) = true := bne_iff_ne.mpr c3;have y : (l0.length == l1.length) = false := by first|simpa using c3|(simp at c3 ⊢;omega)
  obtain rfl := Option.some.inj H;go_enter Tryz.func10,Tryz.ntmps10;go_wp2
  repeat (go_quiet (fail);try go_wp2)
  go_ret;exact ⟨by first|rfl|(simp;done)|(simp [*];done),by repeat (first|exact Drawn0.refl _|apply Drawn0.step)⟩
 rw [if_pos c3] at H;have u : ((l0.length : Int) == (l1.length : Int)) = true := beq_iff_eq.mpr c3;have v : ((l0.length : Int) != (l1.length : Int)) = false := bne_eq_false_iff_eq.mpr c3;have y : (l0.length == l1.length) = true := by first|simpa using c3|(simp at c3 ⊢;omega)
 clear c3;have H' := ZA H;clear H;go_enter Tryz.func10,Tryz.ntmps10;go_wp2
 repeat (go_quiet (fail);try go_wp2)
 go_loopg [13] k (fun kq Y w' => ∃ (d : Int),Y = .int .i64 d ∧ Aside0 (FJ.l0 kq l0 l1 (l0.length : Int) d = some r) ∧ Aside0 (kq <= k) ∧ Drawn0 w w')
 case atStart => exact ⟨(0),ZG,H',⟨Nat.le_refl _⟩,by repeat (first|exact Drawn0.refl _|apply Drawn0.step)⟩
 case round =>
  clear H';obtain ⟨d,rfl,HA,X,⟨m1,rfl⟩⟩ := hrel;cases gk with
  | zero => exact absurd HA.out (by simp [FJ.l0])
  | succ k1 =>
   have H := HA.out;clear HA;simp only [FJ.l0] at H;replace H := YI H;rcases H with ⟨z,H⟩|⟨z,H⟩;rotate_left
   ·obtain rfl := Option.some.inj H;go_wp2
    repeat (go_quiet (fail);try go_wp2)
    go_ret;exact ⟨by first|rfl|(simp;done)|(simp [*];done),by repeat (first|exact Drawn0.refl _|apply Drawn0.step)⟩
   replace H := YN H;obtain ⟨aa,H⟩ := H;replace H := YN H;obtain ⟨ab,H⟩ := H;replace H := YN H;obtain ⟨ac,H⟩ := H;by_cases c8 : (rd l0 d) = (rd l1 d);rotate_left
   ·rw [if_neg c8] at H;have D : ((rd l0 d) == (rd l1 d)) = false := beq_eq_false_iff_ne.mpr c8;have E : ((rd l0 d) != (rd l1 d)) = true := bne_iff_ne.mpr c8;obtain rfl := Option.some.inj H;have g : 0 <= (d : Int) := ZD;have i : d < (l0.length : Int) := ZD;obtain ⟨s,p,n⟩ := Kd.Eav U.out d g i;cases p;replace g := eq_true g;replace i := eq_true i;have j : 0 <= (d : Int) := ZD;have m : d < (l1.length : Int) := ZD;obtain ⟨t,q,o⟩ := Kd.Eav V.out d j m;cases q;replace j := eq_true j;replace m := eq_true m;go_wp2
    repeat (go_quiet (fail);try go_wp2)
    go_ret;exact ⟨by first|rfl|(simp;done)|(simp [*];done),by repeat (first|exact Drawn0.refl _|apply Drawn0.step)⟩
   rw [if_pos c8] at H;have D : ((rd l0 d) == (rd l1 d)) = true := beq_iff_eq.mpr c8;have E : ((rd l0 d) != (rd l1 d)) = false := bne_eq_false_iff_eq.mpr c8;clear c8;have H' := ZA H;clear H;have g : 0 <= (d : Int) := ZD;have i : d < (l0.length : Int) := ZD;obtain ⟨s,p,n⟩ := Kd.Eav U.out d g i;cases p;replace g := eq_true g;replace i := eq_true i;have j : 0 <= (d : Int) := ZD;have m : d < (l1.length : Int) := ZD;obtain ⟨t,q,o⟩ := Kd.Eav V.out d j m;cases q;replace j := eq_true j;replace m := eq_true m;go_wp2
   repeat (go_quiet (fail);try go_wp2)
   go_roundg k1
   case measure => have := X.out;omega
   case rel => exact ⟨(wrap64 (d + 1)),ZG,H',⟨by have := X.out;omega⟩,by repeat (first|exact Drawn0.refl _|apply Drawn0.step)⟩
def Ft.f (k : Nat) (g : Int) (d : List Int) : Option (Bool) := (Fr.f (d.length : Int) 2 4).bind fun i => (if i = true then ((FB.f d 0 15).bind fun j => (if j = true then ((Fi.f d).bind fun m => (if (m.length : Int) = (d.length : Int) then ((FI.f k d g).bind fun n => (some n)) else (some false))) else (some false))) else (some false))
def Ft.T1 : Bool × List (List Nat × List Nat) := (true,[([],[]),([0],[0]),([1],[1]),([2],[2]),([3,3],[3]),([4],[4]),([5,4],[4,5]),([6,4,4],[4,6]),([4,7],[4,7]),([8,7],[8]),([9],[9]),([10,9],[9,10]),([11,9,9],[9,11]),([12,9],[9,12]),([9],[9]),([14,9],[9,14]),([15,9],[9,15]),([13,16,9],[9,13,16]),([9,17],[9,17]),([18,12],[18]),([19],[19]),([20,19],[19,20]),([19],[19]),([22,19],[19,22]),([21,23,19,19],[19,21,23]),([19,24],[19,24]),([25,24,0,1,2,3,4,5,6,7,8,9,10,11,12,13,14,15,16,17,18,19,20,21,22,23,24,25],[25])])
def Ft.B1 : List Nat := [0,1,3,7,15,31,63,127,255,511,1023,2047,4095,8191,1023,17407,50175,131071,262143,524287,1048575,2097151,1048575,5242879,16777215,33554431,67108863]
theorem Ft.tab1 : rtab .any (opsOf Tryz.f68 1) = Ft.T1 := by kernel_rfl
theorem Ft.bits1 : Eco Ft.T1.2 Ft.B1 = true := by kernel_rfl
set_option maxHeartbeats 3000000 in
set_option maxRecDepth 100000 in
theorem Ft.calls (k : Nat) (o : Int) (j : Option Addr) (m : Nat) (g : List Int) (r : Bool) (w : World) (y : Kd.C (Kd.int .i64) w j g.length g) (z : g.length <= m) (h : Ft.f k o g = some r) :
  Calls Tryz.prog 68 #[.agg #[.int .i64 o,.slice j g.length m]] w fun e w' => e = .returned (.bool r) ∧ Below w.heap.size w w' := by
 have aa := Tryz.underlying30;have p := ZA y;have q := ZA z;clear y z;have HB := ZA (Below.refl w.heap.size w);have H := h;clear h;unfold Ft.f at H;replace H := YJ H;obtain ⟨ab,A2,H⟩ := H;replace H := YF H;rcases H with ⟨rfl,H⟩|⟨rfl,H⟩;rotate_left
 ·obtain rfl := Option.some.inj H;go_enter Tryz.func68,Tryz.ntmps68
  try go_wp2_with (first|((with_reducible refine Eaf (N := 1) rfl ?_);(try (refine Ean (by rfl) ?_;dsimp only));refine ZE 1 #[.int .i64 o,.slice j g.length m] 30 ?_;intro i hg Z hbox hb;have d := ZA (hbox);have t := YQ hg HB;have u := YQ hg HB;replace HB := BS HB hb;clear hb hbox hg))
  replace d := ZA (Eaw d.out);replace HB := ZA (Eam HB.out);refine Eca (n := 27) (S := fun w' => w'.cell? ⟨i,0,none⟩ = some (.int .i64 o) ∧ w'.cell? ⟨i,1,none⟩ = some (.slice j g.length m)) (ds := []) (ZL 27 0) (by kernel_rfl) rfl rfl ⟨ZC d 0 rfl,ZC d 1 rfl⟩ (fun hHeld => ?_);refine Eba Ft.tab1 Ft.bits1 (fun HT_ HW_ => ?_);generalize Z.drew = aj at d HB hHeld ⊢;refine YP 0 3 (ZL 27 1) rfl rfl HT_ ?_;refine YT 1 4 (ZL 27 3) rfl rfl HT_ HW_ hHeld ?_;refine YP 2 5 (ZL 27 7) rfl rfl HT_ ?_;refine ZO 3 6 (ZL 27 15) rfl rfl HT_ fun K hK => ?_
  refine YS Tryz.func62 #[.int .i64 (g.length : Int),.int .i64 2,.int .i64 4] ?_
  with_reducible refine (Fr.calls (g.length : Int) 2 4 false _ A2.out).mono ?_
  rintro e w' ⟨rfl,⟨nd,rfl⟩⟩;refine ⟨_,rfl,?_⟩;refine hK.out _ _ ⟨ZC d 0 rfl,ZC d 1 rfl⟩ (fun hHeld => ?_);clear hK K;refine YZ (some 6) ?_;refine YP 4 7 (ZL 27 31) rfl rfl HT_ ?_;refine YU 5 8 (ZL 27 63) rfl rfl HT_ ?_;refine YU 6 9 (ZL 27 127) rfl rfl HT_ ?_;refine YU 7 10 (ZL 27 255) rfl rfl HT_ ?_;refine YP 8 11 (ZL 27 511) rfl rfl HT_ ?_;refine YP 9 12 (ZL 27 1023) rfl rfl HT_ ?_;refine YU 10 13 (ZL 27 2047) rfl rfl HT_ ?_;refine YU 11 14 (ZL 27 4095) rfl rfl HT_ ?_;refine YU 12 15 (ZL 27 8191) rfl rfl HT_ ?_;refine YU 13 16 (ZL 27 16383) rfl rfl HT_ ?_;refine YU 14 17 (ZL 27 32767) rfl rfl HT_ ?_;refine YU 15 18 (ZL 27 65535) rfl rfl HT_ ?_;refine YU 16 19 (ZL 27 131071) rfl rfl HT_ ?_;refine YU 17 20 (ZL 27 262143) rfl rfl HT_ ?_;refine YP 18 21 (ZL 27 524287) rfl rfl HT_ ?_;refine YP 19 22 (ZL 27 1048575) rfl rfl HT_ ?_;refine YU 20 23 (ZL 27 2097151) rfl rfl HT_ ?_;refine YU 21 24 (ZL 27 4194303) rfl rfl HT_ ?_;refine YU 22 25 (ZL 27 8388607) rfl rfl HT_ ?_;refine YU 23 26 (ZL 27 16777215) rfl rfl HT_ ?_;refine YU 24 27 (ZL 27 33554431) rfl rfl HT_ ?_;refine YP 25 28 (ZL 27 67108863) rfl rfl HT_ ?_;refine YP 26 2 (ZL 27 134217727) rfl rfl HT_ ?_;refine Ecy (Ebi HT_.out (by kernel_rfl)) ?_
  try go_wp2
  go_ret;exact ⟨YR,ZQ HB⟩
 replace H := YJ H;obtain ⟨ac,A4,H⟩ := H;replace H := YF H;rcases H with ⟨rfl,H⟩|⟨rfl,H⟩;rotate_left
 ·obtain rfl := Option.some.inj H;go_enter Tryz.func68,Tryz.ntmps68
  try go_wp2_with (first|((with_reducible refine Eaf (N := 1) rfl ?_);(try (refine Ean (by rfl) ?_;dsimp only));refine ZE 1 #[.int .i64 o,.slice j g.length m] 30 ?_;intro i hg ad hbox hb;have d := ZA (hbox);have t := YQ hg HB;have u := YQ hg HB;replace HB := BS HB hb;clear hb hbox hg))
  replace d := ZA (Eaw d.out);replace HB := ZA (Eam HB.out);refine Eca (n := 27) (S := fun w' => w'.cell? ⟨i,0,none⟩ = some (.int .i64 o) ∧ w'.cell? ⟨i,1,none⟩ = some (.slice j g.length m)) (ds := []) (ZL 27 0) (by kernel_rfl) rfl rfl ⟨ZC d 0 rfl,ZC d 1 rfl⟩ (fun hHeld => ?_);refine Eba Ft.tab1 Ft.bits1 (fun HT_ HW_ => ?_);generalize ad.drew = ak at d HB hHeld ⊢;refine YP 0 3 (ZL 27 1) rfl rfl HT_ ?_;refine YT 1 4 (ZL 27 3) rfl rfl HT_ HW_ hHeld ?_;refine YP 2 5 (ZL 27 7) rfl rfl HT_ ?_;refine ZO 3 6 (ZL 27 15) rfl rfl HT_ fun K hK => ?_
  refine YS Tryz.func62 #[.int .i64 (g.length : Int),.int .i64 2,.int .i64 4] ?_
  with_reducible refine (Fr.calls (g.length : Int) 2 4 true _ A2.out).mono ?_
  rintro e w' ⟨rfl,⟨nd,rfl⟩⟩;refine ⟨_,rfl,?_⟩;refine hK.out _ _ ⟨ZC d 0 rfl,ZC d 1 rfl⟩ (fun hHeld => ?_);clear hK K;refine YZ (some 6) ?_;refine YP 4 7 (ZL 27 31) rfl rfl HT_ ?_;refine YP 5 8 (ZL 27 63) rfl rfl HT_ ?_;refine YT 6 9 (ZL 27 127) rfl rfl HT_ HW_ hHeld ?_;refine ZO 7 10 (ZL 27 255) rfl rfl HT_ fun K hK => ?_
  refine YS Tryz.func74 #[.slice j g.length m,.int .i64 0,.int .i64 15] ?_
  with_reducible refine (FB.calls _ _ g 0 15 false _ (ZR (Kd.Eac p.out (ZQ HB))) q.out A4.out).mono ?_
  rintro e al ⟨rfl,hb⟩;refine ⟨_,rfl,?_⟩;replace d := ZA (Eaa (ZH d) hb);replace HB := BS HB hb;refine hK.out _ _ ⟨ZC d 0 rfl,ZC d 1 rfl⟩ (fun hHeld => ?_);clear hK K;refine YZ (some 10) ?_;refine YP 8 11 (ZL 27 511) rfl rfl HT_ ?_;refine YP 9 12 (ZL 27 1023) rfl rfl HT_ ?_;refine YU 10 13 (ZL 27 2047) rfl rfl HT_ ?_;refine YU 11 14 (ZL 27 4095) rfl rfl HT_ ?_;refine YU 12 15 (ZL 27 8191) rfl rfl HT_ ?_;refine YU 13 16 (ZL 27 16383) rfl rfl HT_ ?_;refine YU 14 17 (ZL 27 32767) rfl rfl HT_ ?_;refine YU 15 18 (ZL 27 65535) rfl rfl HT_ ?_;refine YU 16 19 (ZL 27 131071) rfl rfl HT_ ?_;refine YU 17 20 (ZL 27 262143) rfl rfl HT_ ?_;refine YP 18 21 (ZL 27 524287) rfl rfl HT_ ?_;refine YP 19 22 (ZL 27 1048575) rfl rfl HT_ ?_;refine YU 20 23 (ZL 27 2097151) rfl rfl HT_ ?_;refine YU 21 24 (ZL 27 4194303) rfl rfl HT_ ?_;refine YU 22 25 (ZL 27 8388607) rfl rfl HT_ ?_;refine YU 23 26 (ZL 27 16777215) rfl rfl HT_ ?_;refine YU 24 27 (ZL 27 33554431) rfl rfl HT_ ?_;refine YP 25 28 (ZL 27 67108863) rfl rfl HT_ ?_;refine YP 26 2 (ZL 27 134217727) rfl rfl HT_ ?_;refine Ecy (Ebi HT_.out (by kernel_rfl)) ?_
  try go_wp2
  go_ret;exact ⟨YR,ZQ HB⟩
 replace H := YJ H;obtain ⟨s,A6,H⟩ := H;by_cases c7 : (s.length : Int) = (g.length : Int);rotate_left
 ·rw [if_neg c7] at H;have G : ((s.length : Int) == (g.length : Int)) = false := beq_eq_false_iff_ne.mpr c7;have I : ((s.length : Int) != (g.length : Int)) = true := bne_iff_ne.mpr c7;have J : (s.length == g.length) = false := by first|simpa using c7|(simp at c7 ⊢;omega)
  obtain rfl := Option.some.inj H;go_enter Tryz.func68,Tryz.ntmps68
  try go_wp2_with (first|((with_reducible refine Eaf (N := 1) rfl ?_);(try (refine Ean (by rfl) ?_;dsimp only));refine ZE 1 #[.int .i64 o,.slice j g.length m] 30 ?_;intro i hg ae hbox hb;have d := ZA (hbox);have t := YQ hg HB;have u := YQ hg HB;replace HB := BS HB hb;clear hb hbox hg))
  replace d := ZA (Eaw d.out);replace HB := ZA (Eam HB.out);refine Eca (n := 27) (S := fun w' => w'.cell? ⟨i,0,none⟩ = some (.int .i64 o) ∧ w'.cell? ⟨i,1,none⟩ = some (.slice j g.length m)) (ds := []) (ZL 27 0) (by kernel_rfl) rfl rfl ⟨ZC d 0 rfl,ZC d 1 rfl⟩ (fun hHeld => ?_);refine Eba Ft.tab1 Ft.bits1 (fun HT_ HW_ => ?_);generalize ae.drew = am at d HB hHeld ⊢;refine YP 0 3 (ZL 27 1) rfl rfl HT_ ?_;refine YT 1 4 (ZL 27 3) rfl rfl HT_ HW_ hHeld ?_;refine YP 2 5 (ZL 27 7) rfl rfl HT_ ?_;refine ZO 3 6 (ZL 27 15) rfl rfl HT_ fun K hK => ?_
  refine YS Tryz.func62 #[.int .i64 (g.length : Int),.int .i64 2,.int .i64 4] ?_
  with_reducible refine (Fr.calls (g.length : Int) 2 4 true _ A2.out).mono ?_
  rintro e w' ⟨rfl,⟨nd,rfl⟩⟩;refine ⟨_,rfl,?_⟩;refine hK.out _ _ ⟨ZC d 0 rfl,ZC d 1 rfl⟩ (fun hHeld => ?_);clear hK K;refine YZ (some 6) ?_;refine YP 4 7 (ZL 27 31) rfl rfl HT_ ?_;refine YP 5 8 (ZL 27 63) rfl rfl HT_ ?_;refine YT 6 9 (ZL 27 127) rfl rfl HT_ HW_ hHeld ?_;refine ZO 7 10 (ZL 27 255) rfl rfl HT_ fun K hK => ?_
  refine YS Tryz.func74 #[.slice j g.length m,.int .i64 0,.int .i64 15] ?_
  with_reducible refine (FB.calls _ _ g 0 15 true _ (ZR (Kd.Eac p.out (ZQ HB))) q.out A4.out).mono ?_
  rintro e an ⟨rfl,hb⟩;refine ⟨_,rfl,?_⟩;replace d := ZA (Eaa (ZH d) hb);replace HB := BS HB hb;refine hK.out _ _ ⟨ZC d 0 rfl,ZC d 1 rfl⟩ (fun hHeld => ?_);clear hK K;refine YZ (some 10) ?_;refine YP 8 11 (ZL 27 511) rfl rfl HT_ ?_;refine YP 9 12 (ZL 27 1023) rfl rfl HT_ ?_;refine YP 10 13 (ZL 27 2047) rfl rfl HT_ ?_;refine YP 14 17 (ZL 27 18431) rfl rfl HT_ ?_;refine YT 11 14 (ZL 27 20479) rfl rfl HT_ HW_ hHeld ?_;refine YT 15 18 (ZL 27 53247) rfl rfl HT_ HW_ hHeld ?_;refine YP 16 19 (ZL 27 118783) rfl rfl HT_ ?_;refine ZO 12 15 (ZL 27 122879) rfl rfl HT_ fun K hK => ?_
  refine YS Tryz.func100 #[.slice j g.length m] ?_
  with_reducible refine (Fi.calls _ _ g s _ (ZR (Kd.Eac p.out HB.out)) q.out A6.out).mono ?_
  rintro e ao ⟨M,rfl,U,hb⟩;refine ⟨_,rfl,?_⟩;have v := ZA (Kd.Eaz U (SZ HB));replace d := ZA (Eaa (ZH d) hb);replace HB := BS HB hb;obtain ⟨af,ag,D⟩ := Kd.Eai v.out
  (first|subst D|(injection D with f1_ f2_ f3_;have V := f1_.symm;have X := f3_.symm;clear f1_ f2_ f3_;subst V;subst X))
  refine hK.out _ _ ⟨ZC d 0 rfl,ZC d 1 rfl⟩ (fun hHeld => ?_);clear hK K;refine YZ (some 15) ?_;refine YP 13 16 (ZL 27 131071) rfl rfl HT_ ?_;refine YP 17 20 (ZL 27 262143) rfl rfl HT_ ?_;refine YP 18 21 (ZL 27 524287) rfl rfl HT_ ?_;refine YP 19 22 (ZL 27 1048575) rfl rfl HT_ ?_;refine YU 20 23 (ZL 27 2097151) rfl rfl HT_ ?_;refine YU 21 24 (ZL 27 4194303) rfl rfl HT_ ?_;refine YU 22 25 (ZL 27 8388607) rfl rfl HT_ ?_;refine YU 23 26 (ZL 27 16777215) rfl rfl HT_ ?_;refine YU 24 27 (ZL 27 33554431) rfl rfl HT_ ?_;refine YP 25 28 (ZL 27 67108863) rfl rfl HT_ ?_;refine YP 26 2 (ZL 27 134217727) rfl rfl HT_ ?_;refine Ecy (Ebi HT_.out (by kernel_rfl)) ?_
  try go_wp2
  go_ret;exact ⟨YR,ZQ HB⟩
 rw [if_pos c7] at H;have G : ((s.length : Int) == (g.length : Int)) = true := beq_iff_eq.mpr c7;have I : ((s.length : Int) != (g.length : Int)) = false := bne_eq_false_iff_eq.mpr c7;have J : (s.length == g.length) = true := by first|simpa using c7|(simp at c7 ⊢;omega)
 clear c7;replace H := YJ H;obtain ⟨Y,A8,H⟩ := H;obtain rfl := Option.some.inj H;go_enter Tryz.func68,Tryz.ntmps68
 try go_wp2_with (first|((with_reducible refine Eaf (N := 1) rfl ?_);(try (refine Ean (by rfl) ?_;dsimp only));refine ZE 1 #[.int .i64 o,.slice j g.length m] 30 ?_;intro i hg w9 hbox hb;have d := ZA (hbox);have t := YQ hg HB;have u := YQ hg HB;replace HB := BS HB hb;clear hb hbox hg))
 replace d := ZA (Eaw d.out);replace HB := ZA (Eam HB.out);refine Eca (n := 27) (S := fun w' => w'.cell? ⟨i,0,none⟩ = some (.int .i64 o) ∧ w'.cell? ⟨i,1,none⟩ = some (.slice j g.length m)) (ds := []) (ZL 27 0) (by kernel_rfl) rfl rfl ⟨ZC d 0 rfl,ZC d 1 rfl⟩ (fun hHeld => ?_);refine Eba Ft.tab1 Ft.bits1 (fun HT_ HW_ => ?_);generalize w9.drew = ap at d HB hHeld ⊢;refine YP 0 3 (ZL 27 1) rfl rfl HT_ ?_;refine YT 1 4 (ZL 27 3) rfl rfl HT_ HW_ hHeld ?_;refine YP 2 5 (ZL 27 7) rfl rfl HT_ ?_;refine ZO 3 6 (ZL 27 15) rfl rfl HT_ fun K hK => ?_
 refine YS Tryz.func62 #[.int .i64 (g.length : Int),.int .i64 2,.int .i64 4] ?_
 with_reducible refine (Fr.calls (g.length : Int) 2 4 true _ A2.out).mono ?_
 rintro e w' ⟨rfl,⟨nd,rfl⟩⟩;refine ⟨_,rfl,?_⟩;refine hK.out _ _ ⟨ZC d 0 rfl,ZC d 1 rfl⟩ (fun hHeld => ?_);clear hK K;refine YZ (some 6) ?_;refine YP 4 7 (ZL 27 31) rfl rfl HT_ ?_;refine YP 5 8 (ZL 27 63) rfl rfl HT_ ?_;refine YT 6 9 (ZL 27 127) rfl rfl HT_ HW_ hHeld ?_;refine ZO 7 10 (ZL 27 255) rfl rfl HT_ fun K hK => ?_
 refine YS Tryz.func74 #[.slice j g.length m,.int .i64 0,.int .i64 15] ?_
 with_reducible refine (FB.calls _ _ g 0 15 true _ (ZR (Kd.Eac p.out (ZQ HB))) q.out A4.out).mono ?_
 rintro e aq ⟨rfl,hb⟩;refine ⟨_,rfl,?_⟩;replace d := ZA (Eaa (ZH d) hb);replace HB := BS HB hb;refine hK.out _ _ ⟨ZC d 0 rfl,ZC d 1 rfl⟩ (fun hHeld => ?_);clear hK K;refine YZ (some 10) ?_;refine YP 8 11 (ZL 27 511) rfl rfl HT_ ?_;refine YP 9 12 (ZL 27 1023) rfl rfl HT_ ?_;refine YP 10 13 (ZL 27 2047) rfl rfl HT_ ?_;refine YP 14 17 (ZL 27 18431) rfl rfl HT_ ?_;refine YT 11 14 (ZL 27 20479) rfl rfl HT_ HW_ hHeld ?_;refine YT 15 18 (ZL 27 53247) rfl rfl HT_ HW_ hHeld ?_;refine YP 16 19 (ZL 27 118783) rfl rfl HT_ ?_;refine ZO 12 15 (ZL 27 122879) rfl rfl HT_ fun K hK => ?_
 refine YS Tryz.func100 #[.slice j g.length m] ?_
 with_reducible refine (Fi.calls _ _ g s _ (ZR (Kd.Eac p.out HB.out)) q.out A6.out).mono ?_
 rintro e ar ⟨M,rfl,U,hb⟩;refine ⟨_,rfl,?_⟩;have v := ZA (Kd.Eaz U (SZ HB));replace d := ZA (Eaa (ZH d) hb);replace HB := BS HB hb;obtain ⟨ah,ai,E⟩ := Kd.Eai v.out
 (first|subst E|(injection E with f1_ f2_ f3_;have V := f1_.symm;have X := f3_.symm;clear f1_ f2_ f3_;subst V;subst X))
 refine hK.out _ _ ⟨ZC d 0 rfl,ZC d 1 rfl⟩ (fun hHeld => ?_);clear hK K;refine YZ (some 15) ?_;refine YP 13 16 (ZL 27 131071) rfl rfl HT_ ?_;refine YP 17 20 (ZL 27 262143) rfl rfl HT_ ?_;refine YP 18 21 (ZL 27 524287) rfl rfl HT_ ?_;refine YP 19 22 (ZL 27 1048575) rfl rfl HT_ ?_;refine YP 20 23 (ZL 27 2097151) rfl rfl HT_ ?_;refine YP 22 25 (ZL 27 6291455) rfl rfl HT_ ?_;refine YT 21 24 (ZL 27 8388607) rfl rfl HT_ HW_ hHeld ?_;refine YT 23 26 (ZL 27 16777215) rfl rfl HT_ HW_ hHeld ?_;refine ZO 24 27 (ZL 27 33554431) rfl rfl HT_ fun K hK => ?_
 refine YS Tryz.func91 #[.slice j g.length m,.int .i64 o] ?_
 with_reducible refine (FI.calls k _ _ g o Y _ (ZR (Kd.Eac p.out HB.out)) q.out A8.out).mono ?_
 rintro e w' ⟨rfl,⟨nd,rfl⟩⟩;refine ⟨_,rfl,?_⟩;refine hK.out _ _ ⟨ZC d 0 rfl,ZC d 1 rfl⟩ (fun hHeld => ?_);clear hK K;refine YZ (some 27) ?_;refine YP 25 28 (ZL 27 67108863) rfl rfl HT_ ?_;refine YP 26 2 (ZL 27 134217727) rfl rfl HT_ ?_;refine Ecy (Ebi HT_.out (by kernel_rfl)) ?_
 try go_wp2
 go_ret;exact ⟨YR,ZQ HB⟩
def Lc.f (k : Nat) (l0 : List Int) (l1 : List (List Int)) : Option Bool := FY.f (fun x => GB.f k l1 x) l0
set_option maxHeartbeats 1000000
open Go.RowKit Go.Lib Go.Proofs.YtgnijnlgbelifaaGreatW.PrintWords Go.Proofs.YtgnijnlgbelifaaGreatW.PrintLast Go.Proofs.YtgnijnlgbelifaaGreatW.PrintMore Go.Proofs.YtgnijnlgbelifaaGreatW Go.Proofs.YtgnijnlgbelifaaGreat.Q Go.Proofs.YtgnijnlgbelifaaGreatW.GCall
set_option maxHeartbeats 1000000 in
set_option maxRecDepth 100000 in
theorem Lc.calls (k : Nat) (A0 : Option Addr) (c0 : Nat) (l0 : List Int) (A1 : Option Addr) (c1 : Nat) (l1 : List (List Int)) (r : Bool) {gb : Nat} (w : World) (d : Kd.C (Kd.int .i64) w A0 l0.length l0) (aa : l0.length <= c0) (g : Kd.C (Kd.slice 3 (Kd.int .i64)) w A1 l1.length l1) (i : l1.length <= c1) (hbx : w.cell? ⟨gb,0,none⟩ = some (.slice A1 l1.length c1)) (h : Lc.f k l0 l1 = some r) :
  Calls Tryz.prog 123 #[.slice A0 l0.length c0,.func (.func 124) #[] #[.pointer (some ⟨gb,0,none⟩)]] w fun e w' => e = .returned (.bool r) ∧ Below w.heap.size w w' := by
 have eg : ∀ args w,(callFunc 124 args).run Tryz.prog w = .ok (.enter 124 args) w := enters_of Tryz.func124 (by kernel_rfl) rfl;refine FY.calls (fun x => GB.f k l1 x) 124 #[.pointer (some ⟨gb,0,none⟩)] eg A0 c0 l0 r w d ?_ h;intro W x b hb hx hp;have hlt : gb < w.heap.size := World.block_lt_of_cell? w _ hbx;have hc : W.cell? ⟨gb,0,none⟩ = some (.slice A1 l1.length c1) := (hb.cell (p := ⟨gb,0,none⟩) hlt).trans hbx;have hcon := GB.calls k A1 c1 l1 x b W (Kd.Eac g hb) i hp;have HC := ZA hcon;clear hcon hb hbx hp d g h;show Calls Tryz.prog 124 #[.int .i64 x,.pointer (some ⟨gb,0,none⟩)] W _;go_enter Tryz.func124,Tryz.ntmps124
 go_wp2_with (go_at_call 71;refine (HC.out).mono ?_;rintro e w' ⟨rfl,hb'⟩)
 go_ret;exact ⟨rfl,hb'⟩
def Ld.f (k : Nat) (l0 : List (List Int)) (aa : Int) (d : List Int) : Option (Bool) := (Lc.f k d l0).bind fun g => (some g)
set_option maxHeartbeats 3000000 in
set_option maxRecDepth 100000 in
theorem Ld.calls (k : Nat) (A0 : Option Addr) (c0 : Nat) (l0 : List (List Int)) (v : Int) (s : Option Addr) (u : Nat) (i : List Int) (r : Bool) (w : World) (I : Kd.C (Kd.slice 3 (Kd.int .i64)) w A0 l0.length l0) (J : l0.length <= c0) (y : Kd.C (Kd.int .i64) w s i.length i) (z : i.length <= u) (h : Ld.f k l0 v i = some r) :
  Calls Tryz.prog 69 #[.slice A0 l0.length c0,.agg #[.int .i64 v,.slice s i.length u]] w fun e w' => e = .returned (.bool r) ∧ Below w.heap.size w w' := by
 have ai := Tryz.underlying30;have M := ZA I;have U := ZA J;clear I J;have E := ZA y;have G := ZA z;clear y z;have HB := ZA (Below.refl w.heap.size w);have H : ((Lc.f k i l0).bind fun D => (some D)) = some r := h;clear h;replace H := YJ H;obtain ⟨D,A3,H⟩ := H;obtain rfl := Option.some.inj H;go_enter Tryz.func69,Tryz.ntmps69
 go_wp2_with (first|((with_reducible refine Eaf (N := 2) rfl ?_);refine ZE 2 #[.slice A0 l0.length c0] 25 ?_;intro m hg w4 hbox hb;have d := ZA (hbox);have ae := YQ hg HB;have af := YQ hg HB;replace HB := BS HB hb;clear hb hbox hg)|((with_reducible refine Eaf (N := 3) rfl ?_);refine ZE 3 #[.int .i64 v,.slice s i.length u] 30 ?_;intro n hg w5 hbox hb;have j := ZA (hbox);have ag := YQ hg HB;have ah := YQ hg HB;replace HB := BS HB hb;have p := ZA ((by rw [hg];exact Nat.ne_of_lt (Eau (g := m) (o := .cells #[.slice A0 l0.length c0] 25 (0,0)) (ZH d)) : m ≠ n));have q := ZA ((by rw [hg];exact Nat.ne_of_gt (Eau (g := m) (o := .cells #[.slice A0 l0.length c0] 25 (0,0)) (ZH d)) : n ≠ m));replace d := ZA (Eaa (ZH d) hb);clear hb hbox hg;have aj := q.out;have ak := p.out;have aa : w5.cell? ⟨n,0,none⟩ = some (.int .i64 v) := ZC j 0 rfl;have ab : w5.cell? ⟨n,1,none⟩ = some (.slice s i.length u) := ZC j 1 rfl;have ac := Ea j.out 0;have ad := Ea j.out 1)|((with_reducible refine Eb (f := 123) rfl ?_);refine Ecq (some 8) rfl rfl Tryz.func123 (by kernel_rfl) rfl #[.slice s i.length u,.func (.func 124) #[] #[.pointer (some ⟨m,0,none⟩)]] rfl (by (try simp only [List.map_toArray,List.map_cons,List.map_nil]);first|done|rfl|(simp only [List.length_drop,List.length_take];rfl)) ?_;(with_reducible refine (Lc.calls k _ _ i A0 c0 l0 D _ (ZR (Kd.Eac E.out HB.out)) G.out (ZR (Kd.Eac M.out HB.out)) U.out ((Ebc (cs := #[.slice A0 l0.length c0]) (t := 25) (ZH d) 0).trans rfl) A3.out).mono ?_);rintro e w8 ⟨rfl,hb⟩;refine ⟨_,rfl,?_⟩;replace d := ZA (Eaa (ZH d) hb);replace j := ZA (Eaa (ZH j) hb);replace HB := BS HB hb))
 go_ret;exact ⟨YR,ZQ HB⟩
def FQ.f (k : Nat) (l0 : List (S41)) (l1 : List (List Int)) (a2 : Int) (d : Int) (g : List Int) : Option (Bool × Bool) := (FN.f k l0 l1).bind fun i => (if i = true then ((Fr.f a2 0 (l1.length : Int)).bind fun j => (if j = true then ((Ft.f k d g).bind fun m => (if m = true then (if 0 <= a2 then (if a2 <= (l1.length : Int) then ((Ld.f k (l1.take (a2 : Int).toNat) d g).bind fun n => (some (n,true))) else (none)) else (none)) else (some (false,false)))) else (some (false,false)))) else (some (false,false)))
set_option maxHeartbeats 3000000 in
set_option maxRecDepth 100000 in
theorem FQ.calls (k : Nat) (A0 : Option Addr) (c0 : Nat) (l0 : List (S41)) (A1 : Option Addr) (c1 : Nat) (l1 : List (List Int)) (a2 : Int) (j : Int) (p : Option Addr) (q : Nat) (g : List Int) (r1 : Bool) (r2 : Bool) (w : World) (au : Kd.C k41 w A0 l0.length l0) (av : l0.length <= c0) (aw : Kd.C (Kd.slice 3 (Kd.int .i64)) w A1 l1.length l1) (ax : l1.length <= c1) (G : Kd.C (Kd.int .i64) w p g.length g) (I : g.length <= q) (h : FQ.f k l0 l1 a2 j g = some (r1,r2)) :
  Calls Tryz.prog 11 #[.slice A0 l0.length c0,.slice A1 l1.length c1,.int .i64 a2,.agg #[.int .i64 j,.slice p g.length q]] w fun e w' => e = .returned (.tuple #[.bool r1,.bool r2]) ∧ Below w.heap.size w w' := by
 have aE := Tryz.underlying30;have af := ZA au;have ag := ZA av;clear au av;have aa := ZA aw;have ab := ZA ax;clear aw ax;have t := ZA G;have u := ZA I;clear G I;have HB := ZA (Below.refl w.heap.size w);have H := h;clear h;unfold FQ.f at H;replace H := YJ H;obtain ⟨aF,A5,H⟩ := H;replace H := YF H;rcases H with ⟨rfl,H⟩|⟨rfl,H⟩;rotate_left
 ·simp only [Option.some.injEq,Prod.mk.injEq] at H;obtain ⟨rfl,rfl⟩ := H;go_enter Tryz.func11,Tryz.ntmps11
  go_wp2_with (first|((with_reducible refine Eaf (N := 7) rfl ?_);(try (refine Ean (by rfl) ?_;dsimp only));refine ZE 7 #[.int .i64 j,.slice p g.length q] 30 ?_;intro o hg aM hbox hb;have d := ZA (hbox);have y := YQ hg HB;have z := YQ hg HB;replace HB := BS HB hb;clear hb hbox hg)|((with_reducible refine YG 61 ?_);refine YC (some 12) Tryz.func61 #[.slice A0 l0.length c0,.slice A1 l1.length c1] (FN.calls k _ _ l0 _ _ l1 false _ (ZR (Kd.Eac af.out HB.out)) ag.out (ZR (Kd.Eac aa.out HB.out)) ab.out A5.out) ?_;rintro e aN ⟨rfl,hb⟩;refine ⟨_,rfl,?_⟩;replace d := ZA (Eaa (ZH d) hb);replace HB := BS HB hb))
  go_ret2;exact ⟨YR,ZQ HB⟩
 replace H := YJ H;obtain ⟨aG,A7,H⟩ := H;replace H := YF H;rcases H with ⟨rfl,H⟩|⟨rfl,H⟩;rotate_left
 ·simp only [Option.some.injEq,Prod.mk.injEq] at H;obtain ⟨rfl,rfl⟩ := H;go_enter Tryz.func11,Tryz.ntmps11
  go_wp2_with (first|((with_reducible refine Eaf (N := 7) rfl ?_);(try (refine Ean (by rfl) ?_;dsimp only));refine ZE 7 #[.int .i64 j,.slice p g.length q] 30 ?_;intro o hg aO hbox hb;have d := ZA (hbox);have y := YQ hg HB;have z := YQ hg HB;replace HB := BS HB hb;clear hb hbox hg)|((with_reducible refine YG 61 ?_);refine YC (some 12) Tryz.func61 #[.slice A0 l0.length c0,.slice A1 l1.length c1] (FN.calls k _ _ l0 _ _ l1 true _ (ZR (Kd.Eac af.out HB.out)) ag.out (ZR (Kd.Eac aa.out HB.out)) ab.out A5.out) ?_;rintro e aP ⟨rfl,hb⟩;refine ⟨_,rfl,?_⟩;replace d := ZA (Eaa (ZH d) hb);replace HB := BS HB hb)|(go_at_call 62;(with_reducible refine (Fr.calls a2 0 (l1.length : Int) false _ A7.out).mono ?_);rintro e w' ⟨rfl,⟨nd,rfl⟩⟩))
  go_ret2;exact ⟨YR,ZQ HB⟩
 replace H := YJ H;obtain ⟨aH,A9,H⟩ := H;replace H := YF H;rcases H with ⟨rfl,H⟩|⟨rfl,H⟩;rotate_left
 ·simp only [Option.some.injEq,Prod.mk.injEq] at H;obtain ⟨rfl,rfl⟩ := H;go_enter Tryz.func11,Tryz.ntmps11
  go_wp2_with (first|((with_reducible refine Eaf (N := 7) rfl ?_);(try (refine Ean (by rfl) ?_;dsimp only));refine ZE 7 #[.int .i64 j,.slice p g.length q] 30 ?_;intro o hg aQ hbox hb;have d := ZA (hbox);have y := YQ hg HB;have z := YQ hg HB;replace HB := BS HB hb;clear hb hbox hg)|((with_reducible refine YG 61 ?_);refine YC (some 12) Tryz.func61 #[.slice A0 l0.length c0,.slice A1 l1.length c1] (FN.calls k _ _ l0 _ _ l1 true _ (ZR (Kd.Eac af.out HB.out)) ag.out (ZR (Kd.Eac aa.out HB.out)) ab.out A5.out) ?_;rintro e ay ⟨rfl,hb⟩;refine ⟨_,rfl,?_⟩;replace d := ZA (Eaa (ZH d) hb);replace HB := BS HB hb)|(go_at_call 62;(with_reducible refine (Fr.calls a2 0 (l1.length : Int) true _ A7.out).mono ?_);rintro e w' ⟨rfl,⟨nd,rfl⟩⟩;have ah : ay.cell? ⟨o,0,none⟩ = some (.int .i64 j) := ZC d 0 rfl;have ai : ay.cell? ⟨o,1,none⟩ = some (.slice p g.length q) := ZC d 1 rfl;have aj := Ea d.out 0;have ak := Ea d.out 1)|(go_at_call 68;(with_reducible refine (Ft.calls k j _ _ g false _ (ZR (Kd.Eac t.out (ZQ HB))) u.out A9.out).mono ?_);rintro e aR ⟨rfl,hb⟩;replace d := ZA (Eaa (ZH d) hb);replace HB := BS HB hb))
  go_ret2;exact ⟨YR,ZQ HB⟩
 replace H := YM H;obtain ⟨ap,H⟩ := H;have az := eq_true ap;have aA := decide_eq_true ap;clear ap;replace H := YM H;obtain ⟨aq,H⟩ := H;have aB := eq_true aq;have aC := decide_eq_true aq;clear aq;obtain ⟨D,E⟩ : ∃ y_ : List (List Int),y_ = (l1.take (a2 : Int).toNat) := ⟨_,rfl⟩;replace H : ((Ld.f k D j g).bind fun V => (some (V,true))) = some (r1,r2) := YH E H;have J := ZA E;clear E;replace H := YJ H;obtain ⟨V,aI,H⟩ := H;simp only [Option.some.injEq,Prod.mk.injEq] at H;obtain ⟨rfl,rfl⟩ := H;go_enter Tryz.func11,Tryz.ntmps11
 try go_wp2_with (first|((with_reducible refine Eaf (N := 7) rfl ?_);(try (refine Ean (by rfl) ?_;dsimp only));refine ZE 7 #[.int .i64 j,.slice p g.length q] 30 ?_;intro o hg aS hbox hb;have d := ZA (hbox);have y := YQ hg HB;have z := YQ hg HB;replace HB := BS HB hb;clear hb hbox hg)|((with_reducible refine YG 61 ?_);refine YC (some 12) Tryz.func61 #[.slice A0 l0.length c0,.slice A1 l1.length c1] (FN.calls k _ _ l0 _ _ l1 true _ (ZR (Kd.Eac af.out HB.out)) ag.out (ZR (Kd.Eac aa.out HB.out)) ab.out A5.out) ?_;rintro e aD ⟨rfl,hb⟩;refine ⟨_,rfl,?_⟩;replace d := ZA (Eaa (ZH d) hb);replace HB := BS HB hb)|(go_at_call 62;(with_reducible refine (Fr.calls a2 0 (l1.length : Int) true _ A7.out).mono ?_);rintro e w' ⟨rfl,⟨nd,rfl⟩⟩;have al : aD.cell? ⟨o,0,none⟩ = some (.int .i64 j) := ZC d 0 rfl;have am : aD.cell? ⟨o,1,none⟩ = some (.slice p g.length q) := ZC d 1 rfl;have an := Ea d.out 0;have ao := Ea d.out 1)|(go_at_call 68;(with_reducible refine (Ft.calls k j _ _ g true _ (ZR (Kd.Eac t.out (ZQ HB))) u.out A9.out).mono ?_);rintro e aJ ⟨rfl,hb⟩;replace d := ZA (Eaa (ZH d) hb);replace HB := BS HB hb))
 replace d := ZA (Eaw d.out);replace HB := ZA (Eam HB.out);have ar : (a2 : Int) <= ((l1.length : Int) : Int) := ZD;obtain ⟨aK,M,_,ac,_⟩ := info_parts info28;have s : l1.length <= c1 := ab.out;have ad : Kd.C (Kd.slice 3 (Kd.int .i64)) _ A1 l1.length l1 := aa.out;have X := Edh (P := Tryz.prog) 25 28 .i64 Tryz.underlying25 M A1 l1.length c1 a2 ZD ar s;have Y := Kd.Edb (m := (a2 : Int).toNat) ad (by omega);have Z : D.length = (a2 : Int).toNat := (by rw [J.out,List.length_take];omega);rw [<- J.out] at Y;rw [<- Z] at X;have U := ZA Y;have ae := ZA (show D.length <= c1 from by omega);clear Y ad s M ac;have aL := ZA Z;clear Z;replace ar := eq_true ar;refine Eca (n := 7) (S := fun w' => w'.cell? ⟨o,0,none⟩ = some (.int .i64 j) ∧ w'.cell? ⟨o,1,none⟩ = some (.slice p g.length q)) (ds := []) (ZL 7 0) (by kernel_rfl) rfl rfl ⟨ZC d 0 rfl,ZC d 1 rfl⟩ (fun hHeld => ?_);generalize aJ.drew = aT at d HB U hHeld ⊢;refine Egk (i := 0) (N := some 26) (v := ?_) (a' := ?_) (ZL 7 1) rfl rfl (by kernel_rfl) (fun _ _ _ h => h) (Or.inl ⟨by rfl,?_⟩) ?_ ?_;rotate_left
 ·intro w'
  go_simp
  with_reducible rfl
 rotate_left
 ·simp only [Act.put,zuA,zuB,zuC,Ecw,Edo];rfl
 refine Egk (i := 1) (N := some 27) (v := ?_) (a' := ?_) (ZL 7 3) rfl rfl (by kernel_rfl) (fun _ _ _ h => h) (Or.inl ⟨by rfl,?_⟩) ?_ ?_;rotate_left
 ·intro w'
  go_simp
  with_reducible rfl
 rotate_left
 ·simp only [Act.put,zuA,zuB,zuC,Ecw,Edo];rfl
 refine Egk (i := 2) (N := some 28) (v := ?_) (a' := ?_) (ZL 7 7) rfl rfl (by kernel_rfl) (fun _ _ _ h => h) (Or.inl ⟨by rfl,?_⟩) ?_ ?_;rotate_left
 ·intro w'
  go_simp
  with_reducible rfl
 rotate_left
 ·simp only [Act.put,zuA,zuB,zuC,Ecw,Edo];rfl
 refine Ejg (i := 3) (N := some 29) (v := ?_) (a' := ?_) (ZL 7 15) rfl rfl (by kernel_rfl) (fun _ _ _ h => h) (Or.inl ⟨by rfl,?_⟩) hHeld ?_ ?_;rotate_left
 ·rintro w' ⟨s0,s1⟩
  go_simp
  with_reducible rfl
 rotate_left
 ·simp only [Act.put,zuA,zuB,zuC,Ecw,Edo];rfl
 refine one_ (i := 4) (N := some 30) (ZL 7 31) rfl rfl (by kernel_rfl) (by decide) (fun K hK => ?_);refine YS Tryz.func69 #[.slice A1 D.length c1,.agg #[.int .i64 j,.slice p g.length q]] ?_
 with_reducible refine (Ld.calls k _ _ D j _ _ g V _ (ZR (Kd.Eac U.out HB.out)) ae.out (ZR (Kd.Eac t.out HB.out)) u.out aI.out).mono ?_
 rintro e aU ⟨rfl,hb⟩;refine ⟨_,rfl,?_⟩;replace d := ZA (Eaa (ZH d) hb);replace HB := BS HB hb;refine hK.out _ _ ⟨ZC d 0 rfl,ZC d 1 rfl⟩ (fun hHeld => ?_);clear hK K;refine YZ (some 30) ?_;refine Egk (i := 5) (N := some 8) (v := ?_) (a' := ?_) (ZL 7 63) rfl rfl (by kernel_rfl) (fun _ _ _ h => h) (Or.inl ⟨by rfl,?_⟩) ?_ ?_;rotate_left
 ·intro w'
  go_simp
  with_reducible rfl
 rotate_left
 ·simp only [Act.put,zuA,zuB,zuC,Ecw,Edo];rfl
 refine Egk (i := 6) (N := some 9) (v := ?_) (a' := ?_) (ZL 7 127) rfl rfl (by kernel_rfl) (fun _ _ _ h => h) (Or.inl ⟨by rfl,?_⟩) ?_ ?_;rotate_left
 ·intro w'
  go_simp
  with_reducible rfl
 rotate_left
 ·simp only [Act.put,zuA,zuB,zuC,Ecw,Edo];rfl
 refine Ecy (by kernel_rfl) ?_
 try go_wp2
 go_ret2;exact ⟨YR,ZQ HB⟩
def GR.f (k : Nat) (d : Int) (g : List Int) : Option (Int × Bool) := (Ft.f k d g).bind fun i => (if i = true then ((FE.f k g d).bind fun j => (some (j,true))) else (some (0,false)))
set_option maxHeartbeats 3000000 in
set_option maxRecDepth 100000 in
theorem GR.calls (k : Nat) (i : Int) (m : Option Addr) (n : Nat) (g : List Int) (r1 : Int) (r2 : Bool) (w : World) (q : Kd.C (Kd.int .i64) w m g.length g) (s : g.length <= n) (h : GR.f k i g = some (r1,r2)) :
  Calls Tryz.prog 12 #[.agg #[.int .i64 i,.slice m g.length n]] w fun e w' => e = .returned (.tuple #[.int .i64 r1,.bool r2]) ∧ Below w.heap.size w w' := by
 have am := Tryz.underlying30;have o := ZA q;have p := ZA s;clear q s;have HB := ZA (Below.refl w.heap.size w);have H := h;clear h;unfold GR.f at H;replace H := YJ H;obtain ⟨an,A2,H⟩ := H;replace H := YF H;rcases H with ⟨rfl,H⟩|⟨rfl,H⟩;rotate_left
 ·simp only [Option.some.injEq,Prod.mk.injEq] at H;obtain ⟨rfl,rfl⟩ := H;go_enter Tryz.func12,Tryz.ntmps12
  go_wp2_with (first|((with_reducible refine Eaf (N := 1) rfl ?_);refine ZE 1 #[.int .i64 i,.slice m g.length n] 30 ?_;intro j hg w9 hbox hb;have d := ZA (hbox);have t := YQ hg HB;have u := YQ hg HB;replace HB := BS HB hb;clear hb hbox hg;have aa : w9.cell? ⟨j,0,none⟩ = some (.int .i64 i) := ZC d 0 rfl;have ab : w9.cell? ⟨j,1,none⟩ = some (.slice m g.length n) := ZC d 1 rfl;have ac := Ea d.out 0;have ad := Ea d.out 1)|((with_reducible refine Eb (f := 68) rfl ?_);refine Ecq (some 5) rfl rfl Tryz.func68 (by kernel_rfl) rfl #[.agg #[.int .i64 i,.slice m g.length n]] rfl (by (try simp only [List.map_toArray,List.map_cons,List.map_nil]);first|done|rfl|(simp only [List.length_drop,List.length_take];rfl)) ?_;(with_reducible refine (Ft.calls k i _ _ g false _ (ZR (Kd.Eac o.out HB.out)) p.out A2.out).mono ?_);rintro e ao ⟨rfl,hb⟩;refine ⟨_,rfl,?_⟩;replace d := ZA (Eaa (ZH d) hb);replace HB := BS HB hb))
  go_ret2;exact ⟨YR,ZQ HB⟩
 replace H := YJ H;obtain ⟨v,A4,H⟩ := H;simp only [Option.some.injEq,Prod.mk.injEq] at H;obtain ⟨rfl,rfl⟩ := H;go_enter Tryz.func12,Tryz.ntmps12
 go_wp2_with (first|((with_reducible refine Eaf (N := 1) rfl ?_);refine ZE 1 #[.int .i64 i,.slice m g.length n] 30 ?_;intro j hg w5 hbox hb;have d := ZA (hbox);have t := YQ hg HB;have u := YQ hg HB;replace HB := BS HB hb;clear hb hbox hg;have ae : w5.cell? ⟨j,0,none⟩ = some (.int .i64 i) := ZC d 0 rfl;have af : w5.cell? ⟨j,1,none⟩ = some (.slice m g.length n) := ZC d 1 rfl;have ag := Ea d.out 0;have ah := Ea d.out 1)|((with_reducible refine Eb (f := 68) rfl ?_);refine Ecq (some 5) rfl rfl Tryz.func68 (by kernel_rfl) rfl #[.agg #[.int .i64 i,.slice m g.length n]] rfl (by (try simp only [List.map_toArray,List.map_cons,List.map_nil]);first|done|rfl|(simp only [List.length_drop,List.length_take];rfl)) ?_;(with_reducible refine (Ft.calls k i _ _ g true _ (ZR (Kd.Eac o.out HB.out)) p.out A2.out).mono ?_);rintro e w7 ⟨rfl,hb⟩;refine ⟨_,rfl,?_⟩;replace d := ZA (Eaa (ZH d) hb);replace HB := BS HB hb;have ai : w7.cell? ⟨j,0,none⟩ = some (.int .i64 i) := ZC d 0 rfl;have aj : w7.cell? ⟨j,1,none⟩ = some (.slice m g.length n) := ZC d 1 rfl;have ak := Ea d.out 0;have al := Ea d.out 1)|((with_reducible refine YG 70 ?_);refine YC (some 11) Tryz.func70 #[.slice m g.length n,.int .i64 i] (FE.calls k _ _ g i v _ (ZR (Kd.Eac o.out HB.out)) p.out A4.out) ?_;rintro e w' ⟨rfl,⟨nd,rfl⟩⟩;refine ⟨_,rfl,?_⟩))
 go_ret2;exact ⟨YR,ZQ HB⟩
def GM.f (k : Nat) (l0 : List (S41)) (l1 : List (List Int)) (a2 : Int) (a3 : Int) : Option (Bool × Bool) := (FN.f k l0 l1).bind fun d => (if d = true then ((Fr.f a2 0 (l1.length : Int)).bind fun g => (if g = true then ((Fr.f a3 0 (wrap64 ((l0.length : Int) - 1))).bind fun i => (if i = true then (if 0 <= a2 then (if a2 <= (l1.length : Int) then ((GB.f k (l1.take (a2 : Int).toNat) a3).bind fun j => (some (j,true))) else (none)) else (none)) else (some (false,false)))) else (some (false,false)))) else (some (false,false)))
set_option maxHeartbeats 3000000 in
set_option maxRecDepth 100000 in
theorem GM.calls (k : Nat) (A0 : Option Addr) (c0 : Nat) (l0 : List (S41)) (A1 : Option Addr) (c1 : Nat) (l1 : List (List Int)) (a2 : Int) (a3 : Int) (r1 : Bool) (r2 : Bool) (w : World) (U : Kd.C k41 w A0 l0.length l0) (V : l0.length <= c0) (X : Kd.C (Kd.slice 3 (Kd.int .i64)) w A1 l1.length l1) (Y : l1.length <= c1) (h : GM.f k l0 l1 a2 a3 = some (r1,r2)) :
  Calls Tryz.prog 13 #[.slice A0 l0.length c0,.slice A1 l1.length c1,.int .i64 a2,.int .i64 a3] w fun e w' => e = .returned (.tuple #[.bool r1,.bool r2]) ∧ Below w.heap.size w w' := by
 have E := ZA U;have G := ZA V;clear U V;have t := ZA X;have u := ZA Y;clear X Y;have HB := ZA (Below.refl w.heap.size w);have H := h;clear h;unfold GM.f at H;replace H := YJ H;obtain ⟨ae,A5,H⟩ := H;replace H := YF H;rcases H with ⟨rfl,H⟩|⟨rfl,H⟩;rotate_left
 ·simp only [Option.some.injEq,Prod.mk.injEq] at H;obtain ⟨rfl,rfl⟩ := H;go_enter Tryz.func13,Tryz.ntmps13
  go_wp2_with (first|((with_reducible refine YG 61 ?_);refine YC (some 12) Tryz.func61 #[.slice A0 l0.length c0,.slice A1 l1.length c1] (FN.calls k _ _ l0 _ _ l1 false _ (ZR E.out) G.out (ZR t.out) u.out A5.out) ?_;rintro e aj ⟨rfl,hb⟩;refine ⟨_,rfl,?_⟩;replace HB := BS HB hb))
  go_ret2;exact ⟨YR,ZQ HB⟩
 replace H := YJ H;obtain ⟨af,A7,H⟩ := H;replace H := YF H;rcases H with ⟨rfl,H⟩|⟨rfl,H⟩;rotate_left
 ·simp only [Option.some.injEq,Prod.mk.injEq] at H;obtain ⟨rfl,rfl⟩ := H;go_enter Tryz.func13,Tryz.ntmps13
  go_wp2_with (first|((with_reducible refine YG 61 ?_);refine YC (some 12) Tryz.func61 #[.slice A0 l0.length c0,.slice A1 l1.length c1] (FN.calls k _ _ l0 _ _ l1 true _ (ZR E.out) G.out (ZR t.out) u.out A5.out) ?_;rintro e ak ⟨rfl,hb⟩;refine ⟨_,rfl,?_⟩;replace HB := BS HB hb)|(go_at_call 62;(with_reducible refine (Fr.calls a2 0 (l1.length : Int) false _ A7.out).mono ?_);rintro e w' ⟨rfl,⟨nd,rfl⟩⟩))
  go_ret2;exact ⟨YR,ZQ HB⟩
 replace H := YJ H;obtain ⟨ag,A9,H⟩ := H;replace H := YF H;rcases H with ⟨rfl,H⟩|⟨rfl,H⟩;rotate_left
 ·simp only [Option.some.injEq,Prod.mk.injEq] at H;obtain ⟨rfl,rfl⟩ := H;go_enter Tryz.func13,Tryz.ntmps13
  go_wp2_with (first|((with_reducible refine YG 61 ?_);refine YC (some 12) Tryz.func61 #[.slice A0 l0.length c0,.slice A1 l1.length c1] (FN.calls k _ _ l0 _ _ l1 true _ (ZR E.out) G.out (ZR t.out) u.out A5.out) ?_;rintro e al ⟨rfl,hb⟩;refine ⟨_,rfl,?_⟩;replace HB := BS HB hb)|(go_at_call 62;(with_reducible refine (Fr.calls a2 0 (l1.length : Int) true _ A7.out).mono ?_);rintro e w' ⟨rfl,⟨nd,rfl⟩⟩)|(go_at_call 62;(with_reducible refine (Fr.calls a3 0 (wrap64 ((l0.length : Int) - 1)) false _ A9.out).mono ?_);rintro e w' ⟨rfl,⟨nd,rfl⟩⟩))
  go_ret2;exact ⟨YR,ZQ HB⟩
 replace H := YM H;obtain ⟨I,H⟩ := H;have aa := eq_true I;have ab := decide_eq_true I;clear I;replace H := YM H;obtain ⟨J,H⟩ := H;have ac := eq_true J;have ad := decide_eq_true J;clear J;obtain ⟨g,i⟩ : ∃ y_ : List (List Int),y_ = (l1.take (a2 : Int).toNat) := ⟨_,rfl⟩;replace H : ((GB.f k g a3).bind fun o => (some (o,true))) = some (r1,r2) := YH i H;have j := ZA i;clear i;replace H := YJ H;obtain ⟨o,Z,H⟩ := H;simp only [Option.some.injEq,Prod.mk.injEq] at H;obtain ⟨rfl,rfl⟩ := H;go_enter Tryz.func13,Tryz.ntmps13
 go_wp2_with (first|((with_reducible refine YG 61 ?_);refine YC (some 12) Tryz.func61 #[.slice A0 l0.length c0,.slice A1 l1.length c1] (FN.calls k _ _ l0 _ _ l1 true _ (ZR E.out) G.out (ZR t.out) u.out A5.out) ?_;rintro e am ⟨rfl,hb⟩;refine ⟨_,rfl,?_⟩;replace HB := BS HB hb)|(go_at_call 62;(with_reducible refine (Fr.calls a2 0 (l1.length : Int) true _ A7.out).mono ?_);rintro e w' ⟨rfl,⟨nd,rfl⟩⟩)|(go_at_call 62;(with_reducible refine (Fr.calls a3 0 (wrap64 ((l0.length : Int) - 1)) true _ A9.out).mono ?_);rintro e w' ⟨rfl,⟨nd,rfl⟩⟩;have M : (a2 : Int) <= ((l1.length : Int) : Int) := ZD;obtain ⟨ah,n,_,v,_⟩ := info_parts info28;have d : l1.length <= c1 := u.out;have y : Kd.C (Kd.slice 3 (Kd.int .i64)) _ A1 l1.length l1 := t.out;have p := Edh (P := Tryz.prog) 25 28 .i64 Tryz.underlying25 n A1 l1.length c1 a2 ZD M d;have q := Kd.Edb (m := (a2 : Int).toNat) y (by omega);have s : g.length = (a2 : Int).toNat := (by rw [j.out,List.length_take];omega);rw [<- j.out] at q;rw [<- s] at p;have z := ZA q;have D := ZA (show g.length <= c1 from by omega);clear q y d n v;have ai := ZA s;clear s;replace M := eq_true M)|((with_reducible refine YG 71 ?_);refine YC (some 33) Tryz.func71 #[.slice A1 g.length c1,.int .i64 a3] (GB.calls k _ _ g a3 o _ (ZR (Kd.Eac z.out (ZQ HB))) D.out Z.out) ?_;rintro e an ⟨rfl,hb⟩;refine ⟨_,rfl,?_⟩;replace HB := BS HB hb))
 go_ret2;exact ⟨YR,ZQ HB⟩
def Lf.f (a0 : Int) : Option (Int) := if a0 < 0 then (some (wrap64 (-a0))) else (some a0)
set_option maxHeartbeats 3000000 in
set_option maxRecDepth 100000 in
theorem Lf.calls (a0 : Int) (r : Int) (w : World) (h : Lf.f a0 = some r) :
  Calls Tryz.prog 14 #[.int .i64 a0] w fun e w' => e = .returned (.int .i64 r) ∧ Drawn0 w w' := by
 have H : (if a0 < 0 then (some (wrap64 (-a0))) else (some a0)) = some r := h;clear h;by_cases c2 : a0 < 0
 ·rw [if_pos c2] at H;have d := decide_eq_true c2;clear c2;obtain rfl := Option.some.inj H;go_enter Tryz.func14,Tryz.ntmps14;go_wp2;go_ret;exact ⟨by first|rfl|(simp;done)|(simp [*];done),by repeat (first|exact Drawn0.refl _|apply Drawn0.step)⟩
 rw [if_neg c2] at H;have d := decide_eq_false c2;clear c2;obtain rfl := Option.some.inj H;go_enter Tryz.func14,Tryz.ntmps14;go_wp2;go_ret;exact ⟨by first|rfl|(simp;done)|(simp [*];done),by repeat (first|exact Drawn0.refl _|apply Drawn0.step)⟩
def FR.j0 : Nat -> List (List Int) -> Int -> Int -> Bool -> Option (Bool × Bool)
 | 0,_,_,_,_ => none
 | k + 1,x1,x2,x3,i => if i = true then (some (false,false)) else ((Fm.f k x1 x2).bind fun d => ((Fp.f k d x3).bind fun g => (some (g,true))))
def FR.f (k : Nat) (l0 : List (S41)) (l1 : List (List Int)) (a2 : Int) (a3 : Int) : Option (Bool × Bool) := (FV.f k l0 l1 a2).bind fun d => (if d = true then ((FM.f a3 0 (wrap64 ((l0.length : Int) - 1))).bind fun g => (FR.j0 k l1 a2 a3 (!g))) else (FR.j0 k l1 a2 a3 true))
set_option maxHeartbeats 3000000 in
set_option maxRecDepth 100000 in
theorem FR.calls (k : Nat) (A0 : Option Addr) (c0 : Nat) (l0 : List (S41)) (A1 : Option Addr) (c1 : Nat) (l1 : List (List Int)) (a2 : Int) (a3 : Int) (r1 : Bool) (r2 : Bool) (w : World) (v : Kd.C k41 w A0 l0.length l0) (y : l0.length <= c0) (z : Kd.C (Kd.slice 3 (Kd.int .i64)) w A1 l1.length l1) (D : l1.length <= c1) (h : FR.f k l0 l1 a2 a3 = some (r1,r2)) :
  Calls Tryz.prog 15 #[.slice A0 l0.length c0,.slice A1 l1.length c1,.int .i64 a2,.int .i64 a3] w fun e w' => e = .returned (.tuple #[.bool r1,.bool r2]) ∧ Below w.heap.size w w' := by
 have E := ZA v;have G := ZA y;clear v y;have n := ZA z;have o := ZA D;clear z D;have HB := ZA (Below.refl w.heap.size w);have H := h;clear h;unfold FR.f at H;have p := ZA H;clear H;go_enter Tryz.func15,Tryz.ntmps15
 go_upto_region 1 with (fail)
 go_cut [22] (fun J wc => ∃ (kq : Nat) (d : Bool),J = .bool d ∧ Aside0 (FR.j0 kq l1 a2 a3 d = some (r1,r2)) ∧ Aside0 (kq <= k) ∧ Aside0 (Below w.heap.size w wc))
 case first =>
  have H := p.out;clear p;replace H := YJ H;obtain ⟨aa,A6,H⟩ := H;replace H := YF H;rcases H with ⟨rfl,H⟩|⟨rfl,H⟩;rotate_left
  ·have H' := ZA H;clear H
   go_wp2_with (first|((with_reducible refine YG 64 ?_);refine YC (some 13) Tryz.func64 #[.slice A0 l0.length c0,.slice A1 l1.length c1,.int .i64 a2] (FV.calls k _ _ l0 _ _ l1 a2 false _ (ZR (Kd.Eac E.out HB.out)) G.out (ZR (Kd.Eac n.out HB.out)) o.out A6.out) ?_;rintro e ac ⟨rfl,hb⟩;refine ⟨_,rfl,?_⟩;replace HB := BS HB hb))
   go_meet
   case rel => exact ⟨_,(true),ZG,H',⟨YO⟩,⟨ZQ HB⟩⟩
  replace H := YJ H;obtain ⟨j,A8,H⟩ := H;have H' := ZA H;clear H
  go_wp2_with (first|((with_reducible refine YG 64 ?_);refine YC (some 13) Tryz.func64 #[.slice A0 l0.length c0,.slice A1 l1.length c1,.int .i64 a2] (FV.calls k _ _ l0 _ _ l1 a2 true _ (ZR (Kd.Eac E.out HB.out)) G.out (ZR (Kd.Eac n.out HB.out)) o.out A6.out) ?_;rintro e w9 ⟨rfl,hb⟩;refine ⟨_,rfl,?_⟩;replace HB := BS HB hb)|(go_at_call 65;(with_reducible refine (FM.calls a3 0 (wrap64 ((l0.length : Int) - 1)) j _ A8.out).mono ?_);rintro e w' ⟨rfl,⟨nd,rfl⟩⟩))
  go_meet
  case rel => exact ⟨_,(!j),ZG,H',⟨YO⟩,⟨ZQ HB⟩⟩
 case rest =>
  clear p;obtain ⟨kq,d,rfl,HA,ad,HB⟩ := hcut;cases kq with
  | zero => exact absurd HA.out (by simp [FR.j0])
  | succ I =>
   have H := HA.out;clear HA;simp only [FR.j0] at H;by_cases m : d = true
   ·subst m;rw [if_pos rfl] at H;simp only [Option.some.injEq,Prod.mk.injEq] at H;obtain ⟨rfl,rfl⟩ := H;go_wp2;go_ret2;exact ⟨YR,ZQ HB⟩
   replace m := Bool.eq_false_iff.mpr m;subst m;rw [if_neg (show ¬ (false = true) by decide)] at H;replace H := YJ H;obtain ⟨i,M,H⟩ := H;replace H := YJ H;obtain ⟨q,U,H⟩ := H;simp only [Option.some.injEq,Prod.mk.injEq] at H;obtain ⟨rfl,rfl⟩ := H
   go_wp2_with (first|((with_reducible refine YG 67 ?_);refine YC (some 25) Tryz.func67 #[.slice A1 l1.length c1,.int .i64 a2] (Fm.calls I _ _ l1 a2 i _ (ZR (Kd.Eac n.out HB.out)) o.out M.out) ?_;rintro e ae ⟨ab,rfl,V,hb⟩;refine ⟨_,rfl,?_⟩;have g := ZA (Kd.Edq (Kd.Eat (ok' := fun k_ => True) V (fun k_ hk_ => trivial)) (SZ HB));replace HB := BS HB hb;obtain ⟨s,t,u⟩ := Kd.Edk g.out;subst u)|((with_reducible refine YG 72 ?_);refine YC (some 27) Tryz.func72 #[.slice s i.length t,.int .i64 a3] (Fp.calls I _ _ i a3 q _ (WV g) (CV g) U.out) ?_;rintro e w' ⟨rfl,⟨nd,rfl⟩⟩;refine ⟨_,rfl,?_⟩))
   go_ret2;exact ⟨YR,ZQ HB⟩
def GT.l0 : Nat -> Int -> List Int -> Int -> Int -> Option (Bool)
 | 0,_,_,_,_ => none
 | k + 1,x1,x7,x8,x9 => if x9 < x8 then (if 0 <= x9 then (if x9 < (x7.length : Int) then (if (rd x7 x9) = x1 then (some true) else (GT.l0 k x1 x7 x8 (wrap64 (x9 + 1)))) else (none)) else (none)) else (some false)
def GT.f (k : Nat) (l0 : List Int) (a1 : Int) : Option (Bool) := GT.l0 k a1 l0 (l0.length : Int) 0
set_option maxHeartbeats 3000000 in
set_option maxRecDepth 100000 in
theorem GT.calls (k : Nat) (A0 : Option Addr) (c0 : Nat) (l0 : List Int) (a1 : Int) (r : Bool) (w : World) (s : Kd.C (Kd.int .i64) w A0 l0.length l0) (t : l0.length <= c0) (h : GT.f k l0 a1 = some r) :
  Calls Tryz.prog 16 #[.slice A0 l0.length c0,.int .i64 a1] w fun e w' => e = .returned (.bool r) ∧ Drawn0 w w' := by
 have u := ZA s;have ac := ZA t;clear s t;have H : (GT.l0 k a1 l0 (l0.length : Int) 0) = some r := h;clear h;have H' := ZA H;clear H;go_enter Tryz.func16,Tryz.ntmps16;go_wp2
 go_loopg [9] k (fun kq v9 w' => ∃ (d : Int),v9 = .int .i64 d ∧ Aside0 (GT.l0 kq a1 l0 (l0.length : Int) d = some r) ∧ Aside0 (kq <= k) ∧ Drawn0 w w')
 case atStart => exact ⟨(0),ZG,H',⟨Nat.le_refl _⟩,by repeat (first|exact Drawn0.refl _|apply Drawn0.step)⟩
 case round =>
  clear H';obtain ⟨d,rfl,HA,v,⟨m1,rfl⟩⟩ := hrel;cases gk with
  | zero => exact absurd HA.out (by simp [GT.l0])
  | succ k1 =>
   have H := HA.out;clear HA;simp only [GT.l0] at H;replace H := YI H;rcases H with ⟨o,H⟩|⟨o,H⟩;rotate_left
   ·obtain rfl := Option.some.inj H;go_wp2;go_ret;exact ⟨by first|rfl|(simp;done)|(simp [*];done),by repeat (first|exact Drawn0.refl _|apply Drawn0.step)⟩
   replace H := YN H;obtain ⟨aa,H⟩ := H;replace H := YN H;obtain ⟨ab,H⟩ := H;by_cases c6 : (rd l0 d) = a1
   ·rw [if_pos c6] at H;have p : ((rd l0 d) == a1) = true := beq_iff_eq.mpr c6;have q : ((rd l0 d) != a1) = false := bne_eq_false_iff_eq.mpr c6;clear c6;obtain rfl := Option.some.inj H;have g : 0 <= (d : Int) := ZD;have i : d < (l0.length : Int) := ZD;obtain ⟨n,m,j⟩ := Kd.Eav u.out d g i;cases m;replace g := eq_true g;replace i := eq_true i;go_wp2;go_ret;exact ⟨by first|rfl|(simp;done)|(simp [*];done),by repeat (first|exact Drawn0.refl _|apply Drawn0.step)⟩
   rw [if_neg c6] at H;have p : ((rd l0 d) == a1) = false := beq_eq_false_iff_ne.mpr c6;have q : ((rd l0 d) != a1) = true := bne_iff_ne.mpr c6;have H' := ZA H;clear H;have g : 0 <= (d : Int) := ZD;have i : d < (l0.length : Int) := ZD;obtain ⟨n,m,j⟩ := Kd.Eav u.out d g i;cases m;replace g := eq_true g;replace i := eq_true i;go_wp2
   go_roundg k1
   case measure => have := v.out;omega
   case rel => exact ⟨(wrap64 (d + 1)),ZG,H',⟨by have := v.out;omega⟩,by repeat (first|exact Drawn0.refl _|apply Drawn0.step)⟩
def Le.f (l0 : List ByteArray) (a1 : ByteArray) : Option ByteArray := if l0.length <= 140737488355328 then (if (Go.Lib.join (l0.map (·.data.toList)) a1.data.toList).length <= 140737488355328 then some ⟨(Go.Lib.join (l0.map (·.data.toList)) a1.data.toList).toArray⟩ else none) else none
set_option maxHeartbeats 1000000
open Go.RowKit Go.Lib Go.Proofs.YtgnijnlgbelifaaGreatW.PrintWords Go.Proofs.YtgnijnlgbelifaaGreatW.PrintLast Go.Proofs.YtgnijnlgbelifaaGreatW.PrintMore Go.Proofs.YtgnijnlgbelifaaGreatW Go.Proofs.YtgnijnlgbelifaaGreat.Q Go.Proofs.YtgnijnlgbelifaaGreatW.GCall
theorem Le.calls (A0 : Option Addr) (c0 : Nat) (l0 : List ByteArray) (a1 : ByteArray) (r : ByteArray) (w : World) (d : Kd.C Kd.string w A0 l0.length l0) (g : l0.length <= c0) (h : Le.f l0 a1 = some r) :
  Calls Tryz.prog 75 #[.slice A0 l0.length c0,.string a1] w fun e w' => e = .returned (.string r) ∧ Below w.heap.size w w' := by
 unfold Le.f at h
 split at h
 ·rename_i h1
  split at h
  ·rename_i h2
   obtain rfl := Option.some.inj h;rcases Nat.eq_zero_or_pos l0.length with h0 | h0
   ·obtain rfl : l0 = [] := List.eq_nil_of_length_eq_zero h0;refine (Tryz.strings_Join_none A0 c0 a1 w).mono ?_;rintro e w' ⟨rfl,rfl⟩;exact ⟨rfl,Below.refl _ _⟩
   obtain ⟨b,off,rfl,hB,hcell⟩ := GIdx.Ejp d h0 (by decide);refine Tryz.strings_Join b off c0 l0 a1 w (fun j x hx => ?_) hB h1 g h2;obtain ⟨cs,hl,hK,hcc⟩ := hcell j x hx;have hK' : cs = [.string x] := hK;subst hK';have := hcc 0 _ rfl
   rwa [Nat.add_zero,show Kd.string.sz = 1 from rfl,Nat.mul_one] at this
  cases h
 cases h
mutual
def Fl.j0 : Nat -> List (S41) -> Bool -> Int -> List Int -> Option (ByteArray × Bool)
 | 0,_,_,_,_ => none
 | k + 1,x0,g,f,d => if g = true then (some ((⟨#[]⟩ : ByteArray),false)) else (Fl.l0 k x0 ([] : List ByteArray) d (d.length : Int) 0 f d)
def Fl.l0 : Nat -> List (S41) -> List ByteArray -> List Int -> Int -> Int -> Int -> List Int -> Option (ByteArray × Bool)
 | 0,_,_,_,_,_,_,_ => none
 | k + 1,x0,x6,j,m,i,d,g => if i < m then (if 0 <= i then (if i < (j.length : Int) then (if 0 <= (rd j i) then (if (rd j i) < (x0.length : Int) then (if (rd j i) = d then (if 1 + ((rd_T41 x0 (rd j i)).f0).size <= 9223372036854775807 then (if x6.length < 8796093022208 then (Fl.l0 k x0 (x6 ++ [(⟨#[61]⟩ : ByteArray) ++ ((rd_T41 x0 (rd j i)).f0)]) j m (wrap64 (i + 1)) d g) else (none)) else (none)) else (if x6.length < 8796093022208 then (Fl.l0 k x0 (x6 ++ [(rd_T41 x0 (rd j i)).f0]) j m (wrap64 (i + 1)) d g) else (none))) else (none)) else (none)) else (none)) else (none)) else ((Le.f x6 (⟨#[32]⟩ : ByteArray)).bind fun n => (some (n,true)))
end
def Fl.f (k : Nat) (l0 : List (S41)) (g : Int) (d : List Int) : Option (ByteArray × Bool) := (Fh.f k l0).bind fun i => (if i = true then ((Ft.f k g d).bind fun j => (if j = true then ((FB.f d 0 (wrap64 ((l0.length : Int) - 1))).bind fun m => (Fl.j0 k l0 (!m) g d)) else (Fl.j0 k l0 true g d))) else (Fl.j0 k l0 true g d))
set_option maxHeartbeats 3000000 in
set_option maxRecDepth 100000 in
theorem Fl.calls (k : Nat) (A0 : Option Addr) (c0 : Nat) (l0 : List (S41)) (n : Int) (D : Option Addr) (y : Nat) (i : List Int) (r1 : ByteArray) (r2 : Bool) (w : World) (ba : Kd.C k41 w A0 l0.length l0) (bb : l0.length <= c0) (ad : Kd.C (Kd.int .i64) w D i.length i) (ae : i.length <= y) (h : Fl.f k l0 n i = some (r1,r2)) :
  Calls Tryz.prog 17 #[.slice A0 l0.length c0,.agg #[.int .i64 n,.slice D i.length y]] w fun e w' => e = .returned (.tuple #[.string r1,.bool r2]) ∧ Below w.heap.size w w' := by
 have bs := Tryz.underlying30;have ak := ZA ba;have a3 := ZA bb;clear ba bb;have G := ZA ad;have Y := ZA ae;clear ad ae;have HB := ZA (Below.refl w.heap.size w);have H := h;clear h;unfold Fl.f at H;have a4 := ZA H;clear H;go_enter Tryz.func17,Tryz.ntmps17
 go_upto_region 1 with (first|((with_reducible refine Eaf (N := 3) rfl ?_);(try (refine Ean (by rfl) ?_;dsimp only));refine ZE 3 #[.int .i64 n,.slice D i.length y] 30 ?_;intro m hg w4 hbox hb;have d := ZA (hbox);have bc := YQ hg HB;have bd := YQ hg HB;replace HB := BS HB hb;clear hb hbox hg))
 (try simp only [Act.put,zuA,zuB,zuC])
 go_cut [26] (fun bt wc => ∃ (kq : Nat) (X : Bool),bt = .bool X ∧ Aside0 (Fl.j0 kq l0 X n i = some (r1,r2)) ∧ Aside0 (kq <= k) ∧ Aside0 (wc.heap[m]? = some (.cells #[.int .i64 n,(.slice D i.length y)] 30 (0,0))) ∧ Aside0 (Below w.heap.size w wc))
 case first =>
  have H := a4.out;clear a4;replace H := YJ H;obtain ⟨bu,A5,H⟩ := H;replace H := YF H;rcases H with ⟨rfl,H⟩|⟨rfl,H⟩;rotate_left
  ·have H' := ZA H;clear H
   go_wp2_with (first|((with_reducible refine YG 73 ?_);refine YC (some 11) Tryz.func73 #[.slice A0 l0.length c0] (Fh.calls k _ _ l0 false _ (ZR (Kd.Eac ak.out HB.out)) a3.out A5.out) ?_;rintro e bB ⟨rfl,hb⟩;refine ⟨_,rfl,?_⟩;replace d := ZA (Eaa (ZH d) hb);replace HB := BS HB hb))
   go_meet
   case rel => exact ⟨_,(true),ZG,H',⟨YO⟩,⟨ZH d⟩,⟨ZQ HB⟩⟩
  replace H := YJ H;obtain ⟨bv,A7,H⟩ := H;replace H := YF H;rcases H with ⟨rfl,H⟩|⟨rfl,H⟩;rotate_left
  ·have H' := ZA H;clear H
   go_wp2_with (first|((with_reducible refine YG 73 ?_);refine YC (some 11) Tryz.func73 #[.slice A0 l0.length c0] (Fh.calls k _ _ l0 true _ (ZR (Kd.Eac ak.out HB.out)) a3.out A5.out) ?_;rintro e bf ⟨rfl,hb⟩;refine ⟨_,rfl,?_⟩;replace d := ZA (Eaa (ZH d) hb);replace HB := BS HB hb;have aB : bf.cell? ⟨m,0,none⟩ = some (.int .i64 n) := ZC d 0 rfl;have aC : bf.cell? ⟨m,1,none⟩ = some (.slice D i.length y) := ZC d 1 rfl;have aD := Ea d.out 0;have aE := Ea d.out 1)|(go_at_call 68;(with_reducible refine (Ft.calls k n _ _ i false _ (ZR (Kd.Eac G.out HB.out)) Y.out A7.out).mono ?_);rintro e bC ⟨rfl,hb⟩;replace d := ZA (Eaa (ZH d) hb);replace HB := BS HB hb))
   go_meet
   case rel => exact ⟨_,(true),ZG,H',⟨YO⟩,⟨ZH d⟩,⟨ZQ HB⟩⟩
  replace H := YJ H;obtain ⟨al,A9,H⟩ := H;have H' := ZA H;clear H
  go_wp2_with (first|((with_reducible refine YG 73 ?_);refine YC (some 11) Tryz.func73 #[.slice A0 l0.length c0] (Fh.calls k _ _ l0 true _ (ZR (Kd.Eac ak.out HB.out)) a3.out A5.out) ?_;rintro e bg ⟨rfl,hb⟩;refine ⟨_,rfl,?_⟩;replace d := ZA (Eaa (ZH d) hb);replace HB := BS HB hb;have aF : bg.cell? ⟨m,0,none⟩ = some (.int .i64 n) := ZC d 0 rfl;have aG : bg.cell? ⟨m,1,none⟩ = some (.slice D i.length y) := ZC d 1 rfl;have aH := Ea d.out 0;have aI := Ea d.out 1)|(go_at_call 68;(with_reducible refine (Ft.calls k n _ _ i true _ (ZR (Kd.Eac G.out HB.out)) Y.out A7.out).mono ?_);rintro e bh ⟨rfl,hb⟩;replace d := ZA (Eaa (ZH d) hb);replace HB := BS HB hb;have aJ : bh.cell? ⟨m,0,none⟩ = some (.int .i64 n) := ZC d 0 rfl;have aK : bh.cell? ⟨m,1,none⟩ = some (.slice D i.length y) := ZC d 1 rfl;have aM := Ea d.out 0;have aN := Ea d.out 1)|(go_at_call 74;(with_reducible refine (FB.calls _ _ i 0 (wrap64 ((l0.length : Int) - 1)) al _ (ZR (Kd.Eac G.out HB.out)) Y.out A9.out).mono ?_);rintro e bD ⟨rfl,hb⟩;replace d := ZA (Eaa (ZH d) hb);replace HB := BS HB hb))
  go_meet
  case rel => exact ⟨_,(!al),ZG,H',⟨YO⟩,⟨ZH d⟩,⟨ZQ HB⟩⟩
 case rest =>
  clear a4;obtain ⟨kq,X,rfl,HA,aO,d,HB⟩ := hcut;cases kq with
  | zero => exact absurd HA.out (by simp [Fl.j0])
  | succ bi =>
   have H := HA.out;clear HA;simp only [Fl.j0] at H;by_cases aP : X = true
   ·subst aP;rw [if_pos rfl] at H;simp only [Option.some.injEq,Prod.mk.injEq] at H;obtain ⟨rfl,rfl⟩ := H;go_wp2;go_ret2;exact ⟨YR,ZQ HB⟩
   replace aP := Bool.eq_false_iff.mpr aP;subst aP;rw [if_neg (show ¬ (false = true) by decide)] at H;have H' := ZA H;clear H;have aQ : wc.cell? ⟨m,0,none⟩ = some (.int .i64 n) := ZC d 0 rfl;have aR : wc.cell? ⟨m,1,none⟩ = some (.slice D i.length y) := ZC d 1 rfl;have aS := Ea d.out 0;have aT := Ea d.out 1;go_wp2
   go_loopg [6,30] bi (fun kq v6 bw w' => ∃ (E : List ByteArray) (j : Int),bw = .int .i64 j ∧ Aside0 (Fl.l0 kq l0 E i (i.length : Int) j n i = some (r1,r2)) ∧ Aside0 (kq <= bi) ∧ Aside0 (Kd.R Kd.string 9 w' w.heap.size (fun _ => True) v6 E) ∧ Aside0 (w'.heap[m]? = some (.cells #[.int .i64 n,(.slice D i.length y)] 30 (0,0))) ∧ Aside0 (Below w.heap.size w w'))
   case atStart => exact ⟨(([] : List ByteArray)),(0),ZG,H',⟨Nat.le_refl _⟩,⟨by first|exact Kd.Edp _ _ _ _ _|exact Kd.Eeu _ _ _ _ _|exact Kd.Eei _ _ _ _ _|exact Kd.Eet _ _ _ _ _|exact Kd.Ees _ _ _ _ _⟩,⟨ZH d⟩,⟨ZQ HB⟩⟩
   case round =>
    clear H';obtain ⟨E,j,rfl,HA,aU,z,d,HB⟩ := hrel;cases gk with
    | zero => exact absurd HA.out (by simp [Fl.l0])
    | succ k2 =>
     have H := HA.out;clear HA;simp only [Fl.l0] at H;replace H := YI H;rcases H with ⟨am,H⟩|⟨am,H⟩;rotate_left
     ·replace H := ZI H;obtain ⟨a5,an,H⟩ := H;have bx := ZA an;clear an;simp only [Option.some.injEq,Prod.mk.injEq] at H;obtain ⟨rfl,rfl⟩ := H;obtain ⟨a6,a7,a8⟩ := Kd.Eai z.out;subst a8
      go_wp2_with (first|((with_reducible refine Eb (f := 75) rfl ?_);refine Ecq (some 51) rfl rfl Tryz.func75 (by kernel_rfl) rfl #[.slice a6 E.length a7,.string (⟨#[32]⟩ : ByteArray)] rfl (by (try simp only [List.map_toArray,List.map_cons,List.map_nil]);first|done|rfl|(simp only [List.length_drop,List.length_take];rfl)) ?_;(with_reducible refine (Le.calls _ _ E (⟨#[32]⟩ : ByteArray) a5 _ (WR z) (CR z) bx.out).mono ?_);rintro e bE ⟨rfl,hb⟩;refine ⟨_,rfl,?_⟩;replace z := ZBR z hb;replace d := ZA (Eaa (ZH d) hb);replace HB := BS HB hb))
      go_ret2;exact ⟨YR,ZQ HB⟩
     replace H := YN H;obtain ⟨bj,H⟩ := H;replace H := YN H;obtain ⟨bk,H⟩ := H;replace H := YN H;obtain ⟨bl,H⟩ := H;replace H := YN H;obtain ⟨bm,H⟩ := H;by_cases af : (rd i j) = n;rotate_left
     ·rw [if_neg af] at H;have ao : ((rd i j) == n) = false := beq_eq_false_iff_ne.mpr af;have ap : ((rd i j) != n) = true := bne_iff_ne.mpr af;replace H := YM H;obtain ⟨bn,H⟩ := H;have aq := ZA bn;clear bn;obtain ⟨ar,Z⟩ : ∃ y_ : List ByteArray,y_ = (E ++ [(rd_T41 l0 (rd i j)).f0]) := ⟨_,rfl⟩;replace H : (Fl.l0 k2 l0 ar i (i.length : Int) (wrap64 (j + 1)) n i) = some (r1,r2) := YH Z H;have au := ZA Z;clear Z;have H' := ZA H;clear H;have J : 0 <= (j : Int) := ZD;have M : j < (i.length : Int) := ZD;obtain ⟨I,ag,p⟩ := Kd.Eav G.out j J M;cases ag;replace p := ZX HB p;replace J := eq_true J;replace M := eq_true M;have U : 0 <= ((rd i j) : Int) := ZD;have V : (rd i j) < (l0.length : Int) := ZD;obtain ⟨av,ah,ai,aj,q,s,t,u,v⟩ := at_T41 ak.out (rd i j) U V;cases aj;replace q := ZX HB q;replace s := ZX HB s;replace t := ZX HB t;have ab := ZA v;have ac := ZA u;clear v u;replace U := eq_true U;replace V := eq_true V;have aV : wr.cell? ⟨m,0,none⟩ = some (.int .i64 n) := ZC d 0 rfl;have aW : wr.cell? ⟨m,1,none⟩ = some (.slice (some I) i.length y) := ZC d 1 rfl;have aX := Ea d.out 0;have aY := Ea d.out 1
      go_wp2_with (first|((with_reducible refine Eao (b := .append) (xs := #[.tmp 45,.tmp 47]) rfl ?_);(try (refine Ean (by rfl) ?_;dsimp only));at_builtin;refine Kd.Edl Kd.string (w0 := w) w.heap.size rfl (.tmp 45) (.tmp 47) 98 9 (.string ⟨#[]⟩) 16 rfl Tryz.underlying98 info9 rfl (by decide) (by omega) u6 E ((rd_T41 l0 (rd i j)).f0) [.string ((rd_T41 l0 (rd i j)).f0)] (fun _ => True) (fun _ => False) rfl rfl rfl (fun _ hk => hk.elim) (fun _ _ => trivial) (ZK z) (ZQ HB) (SZ HB) ?aL ?_;(case aL => have := aq.out;omega);intro bz bF ho hb hg hat;rw [<- au.out] at ho;replace d := ZA (Ebb (g := m) (o := .cells #[.int .i64 n,.slice (some I) i.length y] 30 (0,0)) (ZH d) hg (Kd.R_ne z.out d.out (by decide)));replace HB := ZA (hb);have aw := ZA (ho);clear z;clear ho hb hg hat))
      go_roundg k2
      case measure => have := aO.out;have := aU.out;omega
      case rel => exact ⟨(ar),(wrap64 (j + 1)),ZG,H',⟨by have := aO.out;have := aU.out;omega⟩,⟨ZK aw⟩,⟨ZH d⟩,⟨ZQ HB⟩⟩
     rw [if_pos af] at H;have ao : ((rd i j) == n) = true := beq_iff_eq.mpr af;have ap : ((rd i j) != n) = false := bne_eq_false_iff_eq.mpr af;clear af;replace H := YM H;obtain ⟨a9,H⟩ := H;have bo := eq_true a9;have bp := decide_eq_true a9
     try have bq : (9223372036854775807 < 1 + ((rd_T41 l0 (rd i j)).f0).size) = False := eq_false (Nat.not_lt.2 a9)
     replace H := YM H;obtain ⟨br,H⟩ := H;have ax := ZA br;clear br;obtain ⟨ay,aa⟩ : ∃ y_ : List ByteArray,y_ = (E ++ [(⟨#[61]⟩ : ByteArray) ++ ((rd_T41 l0 (rd i j)).f0)]) := ⟨_,rfl⟩;replace H : (Fl.l0 k2 l0 ay i (i.length : Int) (wrap64 (j + 1)) n i) = some (r1,r2) := YH aa H;have az := ZA aa;clear aa;have H' := ZA H;clear H;have J : 0 <= (j : Int) := ZD;have M : j < (i.length : Int) := ZD;obtain ⟨I,ag,p⟩ := Kd.Eav G.out j J M;cases ag;replace p := ZX HB p;replace J := eq_true J;replace M := eq_true M;have U : 0 <= ((rd i j) : Int) := ZD;have V : (rd i j) < (l0.length : Int) := ZD;obtain ⟨av,ah,ai,aj,q,s,t,u,v⟩ := at_T41 ak.out (rd i j) U V;cases aj;replace q := ZX HB q;replace s := ZX HB s;replace t := ZX HB t;have ab := ZA v;have ac := ZA u;clear v u;replace U := eq_true U;replace V := eq_true V;have aZ : wr.cell? ⟨m,0,none⟩ = some (.int .i64 n) := ZC d 0 rfl;have a0 : wr.cell? ⟨m,1,none⟩ = some (.slice (some I) i.length y) := ZC d 1 rfl;have a1 := Ea d.out 0;have a2 := Ea d.out 1
     go_wp2_with (first|((with_reducible refine Eao (b := .append) (xs := #[.tmp 45,.tmp 47]) rfl ?_);(try (refine Ean (by rfl) ?_;dsimp only));at_builtin;refine Kd.Edl Kd.string (w0 := w) w.heap.size rfl (.tmp 45) (.tmp 47) 98 9 (.string ⟨#[]⟩) 16 rfl Tryz.underlying98 info9 rfl (by decide) (by omega) u6 E ((⟨#[61]⟩ : ByteArray) ++ ((rd_T41 l0 (rd i j)).f0)) [.string ((⟨#[61]⟩ : ByteArray) ++ ((rd_T41 l0 (rd i j)).f0))] (fun _ => True) (fun _ => False) rfl rfl rfl (fun _ hk => hk.elim) (fun _ _ => trivial) (ZK z) (ZQ HB) (SZ HB) ?aL ?_;(case aL => have := ax.out;omega);intro bA bG ho hb hg hat;rw [<- az.out] at ho;replace d := ZA (Ebb (g := m) (o := .cells #[.int .i64 n,.slice (some I) i.length y] 30 (0,0)) (ZH d) hg (Kd.R_ne z.out d.out (by decide)));replace HB := ZA (hb);have aA := ZA (ho);clear z;clear ho hb hg hat))
     go_roundg k2
     case measure => have := aO.out;have := aU.out;omega
     case rel => exact ⟨(ay),(wrap64 (j + 1)),ZG,H',⟨by have := aO.out;have := aU.out;omega⟩,⟨ZK aA⟩,⟨ZH d⟩,⟨ZQ HB⟩⟩
def GZ.f (k : Nat) (l0 : List Int) : Option ((List (S41)) × (List (List Int)) × Int) := (Fx.f k l0 0 0).bind fun d => (some (d.1,d.2.1,d.2.2.1))
set_option maxHeartbeats 3000000 in
set_option maxRecDepth 100000 in
theorem GZ.calls (k : Nat) (A0 : Option Addr) (c0 : Nat) (l0 : List Int) (r1 : List (S41)) (r2 : List (List Int)) (r3 : Int) (w : World) (z : Kd.C (Kd.int .u8) w A0 l0.length l0) (D : l0.length <= c0) (h : GZ.f k l0 = some (r1,r2,r3)) :
  Calls Tryz.prog 18 #[.slice A0 l0.length c0] w fun e w' => ∃ n o : Value,e = .returned (.tuple #[n,o,.int .i64 r3]) ∧ Kd.N k41 41 w' w.heap.size (fun k_ => (w.heap.size <= k_) ∧ some k_ ≠ (o : Value).ownBlock) n r1 ∧ Kd.N (Kd.slice 3 (Kd.int .i64)) 28 w' w.heap.size (fun k_ => (w.heap.size <= k_) ∧ some k_ ≠ (n : Value).ownBlock) o r2 ∧ Below w.heap.size w w' := by
 have aa := Tryz.underlying82;have E := ZA z;have ab := ZA D;clear z D;have HB := ZA (Below.refl w.heap.size w);have H : ((Fx.f k l0 0 0).bind fun i => (some (i.1,i.2.1,i.2.2.1))) = some (r1,r2,r3) := h;clear h;replace H := YJ H;obtain ⟨⟨p,q,s,t,u⟩,A2,H⟩ := H;try dsimp only at H
 simp only [Option.some.injEq,Prod.mk.injEq] at H;obtain ⟨rfl,rfl,rfl⟩ := H;go_enter Tryz.func18,Tryz.ntmps18
 go_wp2_with (first|((with_reducible refine Eaf (N := 8) rfl ?_);refine ZE 8 #[.slice A0 l0.length c0,.int .i64 0,.int .u64 0] 82 ?_;intro d hg w3 hbox hb;have g := ZA ((⟨_,_,hbox,(by rw [hg];exact (SZ HB)),E.out⟩ : IsS82 w w3 d l0 0 0));replace HB := BS HB hb;clear hb hbox hg)|((with_reducible refine YG 58 ?_);refine YC (some 10) Tryz.func58 #[.pointer (some ⟨d,0,none⟩)] (Fx.calls k d l0 0 0 p q s t u w _ (ZS g) (ZJ HB) A2.out) ?_;rintro e w4 ⟨v,y,rfl,G,I,hi,hb,hk⟩;refine ⟨_,rfl,?_⟩;have j := ZA (Kd.Ece (Kd.Ead (ok' := fun k_ => (w.heap.size <= k_) ∧ some k_ ≠ (y : Value).ownBlock ∧ k_ ≠ d) G (fun k_ hk_ => ⟨(Nat.le_trans (Ear (ZJ HB)) hk_.1),hk_.2,(IsS82.fresh (ZS g) k_ hk_.1)⟩)) (Ear (ZJ HB)));have m := ZA (Kd.Ece (Kd.Ead (ok' := fun k_ => (w.heap.size <= k_) ∧ some k_ ≠ (v : Value).ownBlock ∧ k_ ≠ d) I (fun k_ hk_ => ⟨(Nat.le_trans (Ear (ZJ HB)) hk_.1),hk_.2,(IsS82.fresh (ZS g) k_ hk_.1)⟩)) (Ear (ZJ HB)));replace HB := ZA (hb);replace g := ZA (hi)))
 go_ret3
 exact ⟨_,_,YR,ZKN ⟨Kd.Ead j.out (fun _ hk => ⟨hk.1,hk.2.1⟩)⟩,ZKN ⟨Kd.Ead m.out (fun _ hk => ⟨hk.1,hk.2.1⟩)⟩,ZJ HB⟩
mutual
def FD.j0 : Nat -> List (S41) -> List (List Int) -> Int -> Bool -> Option ((List (S30)) × Bool)
 | 0,_,_,_,_ => none
 | k + 1,x0,x1,x2,d => if d = true then (some (([] : List (S30)),false)) else (if 0 <= (wrap64 (x2 - 1)) then (if (wrap64 (x2 - 1)) < (x1.length : Int) then (FD.l0 k x0 x1 x2 ([] : List (S30)) (rd_L2 x1 (wrap64 (x2 - 1))) ((rd_L2 x1 (wrap64 (x2 - 1))).length : Int) 0) else (none)) else (none))
def FD.l0 : Nat -> List (S41) -> List (List Int) -> Int -> List (S30) -> List Int -> Int -> Int -> Option ((List (S30)) × Bool)
 | 0,_,_,_,_,_,_,_ => none
 | k + 1,x0,x1,x2,x8,i,j,g => if g < j then (if 0 <= g then (if g < (i.length : Int) then (if 0 <= x2 then (if x2 <= (x1.length : Int) then ((Fa.f k x0 (x1.take (x2 : Int).toNat) (rd i g) 2).bind fun d => (if d.2.2 = true then (if x8.length < 4398046511104 then (FD.l0 k x0 x1 x2 (x8 ++ [(⟨d.1,d.2.1⟩ : S30)]) i j (wrap64 (g + 1))) else (none)) else (some (([] : List (S30)),false)))) else (none)) else (none)) else (none)) else (none)) else (some (x8,true))
end
def FD.f (k : Nat) (l0 : List (S41)) (l1 : List (List Int)) (a2 : Int) : Option ((List (S30)) × Bool) := (FN.f k l0 l1).bind fun d => (if d = true then ((Fr.f a2 1 (l1.length : Int)).bind fun g => (FD.j0 k l0 l1 a2 (!g))) else (FD.j0 k l0 l1 a2 true))
set_option maxHeartbeats 3000000 in
set_option maxRecDepth 100000 in
theorem FD.calls (k : Nat) (A0 : Option Addr) (c0 : Nat) (l0 : List (S41)) (A1 : Option Addr) (c1 : Nat) (l1 : List (List Int)) (a2 : Int) (r1 : List (S30)) (r2 : Bool) (w : World) (bk : Kd.C k41 w A0 l0.length l0) (bl : l0.length <= c0) (bm : Kd.C (Kd.slice 3 (Kd.int .i64)) w A1 l1.length l1) (bn : l1.length <= c1) (h : FD.f k l0 l1 a2 = some (r1,r2)) :
  Calls Tryz.prog 19 #[.slice A0 l0.length c0,.slice A1 l1.length c1,.int .i64 a2] w fun e w' => ∃ bo : Value,e = .returned (.tuple #[bo,.bool r2]) ∧ Kd.S k30 30 w' w.heap.size (fun _ => True) bo r1 ∧ Below w.heap.size w w' := by
 have bD := Tryz.underlying30;have aO := ZA bk;have aP := ZA bl;clear bk bl;have ay := ZA bm;have aQ := ZA bn;clear bm bn;have HB := ZA (Below.refl w.heap.size w);have H := h;clear h;unfold FD.f at H;have a5 := ZA H;clear H;go_enter Tryz.func19,Tryz.ntmps19
 go_upto_region 1 with (fail)
 go_cut [23] (fun bE wc => ∃ (kq : Nat) (X : Bool),bE = .bool X ∧ Aside0 (FD.j0 kq l0 l1 a2 X = some (r1,r2)) ∧ Aside0 (kq <= k) ∧ Aside0 (Below w.heap.size w wc))
 case first =>
  have H := a5.out;clear a5;replace H := YJ H;obtain ⟨bF,A5,H⟩ := H;replace H := YF H;rcases H with ⟨rfl,H⟩|⟨rfl,H⟩;rotate_left
  ·have H' := ZA H;clear H
   go_wp2_with (first|((with_reducible refine YG 61 ?_);refine YC (some 15) Tryz.func61 #[.slice A0 l0.length c0,.slice A1 l1.length c1] (FN.calls k _ _ l0 _ _ l1 false _ (ZR (Kd.Eac aO.out HB.out)) aP.out (ZR (Kd.Eac ay.out HB.out)) aQ.out A5.out) ?_;rintro e w9 ⟨rfl,hb⟩;refine ⟨_,rfl,?_⟩;replace HB := BS HB hb))
   go_meet
   case rel => exact ⟨_,(true),ZG,H',⟨YO⟩,⟨ZQ HB⟩⟩
  replace H := YJ H;obtain ⟨az,A7,H⟩ := H;have H' := ZA H;clear H
  go_wp2_with (first|((with_reducible refine YG 61 ?_);refine YC (some 15) Tryz.func61 #[.slice A0 l0.length c0,.slice A1 l1.length c1] (FN.calls k _ _ l0 _ _ l1 true _ (ZR (Kd.Eac aO.out HB.out)) aP.out (ZR (Kd.Eac ay.out HB.out)) aQ.out A5.out) ?_;rintro e w8 ⟨rfl,hb⟩;refine ⟨_,rfl,?_⟩;replace HB := BS HB hb)|(go_at_call 62;(with_reducible refine (Fr.calls a2 1 (l1.length : Int) az _ A7.out).mono ?_);rintro e w' ⟨rfl,⟨nd,rfl⟩⟩))
  go_meet
  case rel => exact ⟨_,(!az),ZG,H',⟨YO⟩,⟨ZQ HB⟩⟩
 case rest =>
  clear a5;obtain ⟨kq,X,rfl,HA,bp,HB⟩ := hcut;cases kq with
  | zero => exact absurd HA.out (by simp [FD.j0])
  | succ a6 =>
   have H := HA.out;clear HA;simp only [FD.j0] at H;by_cases c10 : X = true
   ·subst c10;rw [if_pos rfl] at H;simp only [Option.some.injEq,Prod.mk.injEq] at H;obtain ⟨rfl,rfl⟩ := H;go_wp2;go_ret2;exact ⟨_,YR,by first|exact Kd.Ees _ _ _ _ _|exact Kd.Eeu _ _ _ _ _|exact Kd.Eei _ _ _ _ _|exact Kd.Eet _ _ _ _ _|exact Kd.Edp _ _ _ _ _,ZQ HB⟩
   replace c10 := Bool.eq_false_iff.mpr c10;subst c10;rw [if_neg (show ¬ (false = true) by decide)] at H;obtain ⟨n,D⟩ : ∃ j_ : Int,(wrap64 (a2 - 1)) = j_ := ⟨_,rfl⟩;replace H : (if 0 <= (n) then (if (n) < (l1.length : Int) then (FD.l0 a6 l0 l1 a2 ([] : List (S30)) (rd_L2 l1 (n)) ((rd_L2 l1 (n)).length : Int) 0) else (none)) else (none)) = some (r1,r2) := by first|(rw [D] at H;exact H)|(simp only [D] at H ⊢;exact H)
   have a7 : (IntKind.i64.wrap (a2 - 1)) = n := (Ecw _).trans D;replace H := YN H;obtain ⟨bq,H⟩ := H;replace H := YN H;obtain ⟨br,H⟩ := H;have H' := ZA H;clear H;have am : 0 <= ((n) : Int) := ZD;have an : (n) < (l1.length : Int) := ZD;obtain ⟨I,a8,a9,ba,Y,Z,aa⟩ := at_L2 ay.out (n) am an;cases ba;replace Y := ZX HB Y;have ab := ZA aa;have aR := ZA Z;clear aa Z;replace am := eq_true am;replace an := eq_true an;go_wp2
   go_loopg [8,30] a6 (fun kq v8 bG w' => ∃ (M : List (S30)) (j : Int),bG = .int .i64 j ∧ Aside0 (FD.l0 kq l0 l1 a2 M (rd_L2 l1 (n)) ((rd_L2 l1 (n)).length : Int) j = some (r1,r2)) ∧ Aside0 (kq <= a6) ∧ Aside0 (Kd.S k30 30 w' w.heap.size (fun _ => True) v8 M) ∧ Aside0 (Below w.heap.size w w'))
   case atStart => exact ⟨(([] : List (S30))),(0),ZG,H',⟨Nat.le_refl _⟩,⟨YE⟩,⟨ZQ HB⟩⟩
   case round =>
    clear H';obtain ⟨M,j,rfl,HA,bs,s,HB⟩ := hrel;cases gk with
    | zero => exact absurd HA.out (by simp [FD.l0])
    | succ k2 =>
     have H := HA.out;clear HA;simp only [FD.l0] at H;replace H := YI H;rcases H with ⟨aA,H⟩|⟨aA,H⟩;rotate_left
     ·simp only [Option.some.injEq,Prod.mk.injEq] at H;obtain ⟨rfl,rfl⟩ := H;go_wp2;go_ret2;exact ⟨_,by first|rfl|(simp [errW_none,errW_some] <;> rfl)|(simp only [<- D];first|rfl|(simp [errW_none,errW_some] <;> rfl))|(simp [*,errW_none,errW_some] <;> rfl),ZKS s,ZQ HB⟩
     replace H := YN H;obtain ⟨bt,H⟩ := H;replace H := YN H;obtain ⟨bu,H⟩ := H;replace H := YM H;obtain ⟨bb,H⟩ := H;have bv := eq_true bb;have bw := decide_eq_true bb;clear bb;replace H := YM H;obtain ⟨bc,H⟩ := H;have bx := eq_true bc;have bz := decide_eq_true bc;clear bc;obtain ⟨J,af⟩ : ∃ y_ : List (List Int),y_ = (l1.take (a2 : Int).toNat) := ⟨_,rfl⟩;replace H : ((Fa.f k2 l0 J (rd (rd_L2 l1 (n)) j) 2).bind fun ag => (if ag.2.2 = true then (if M.length < 4398046511104 then (FD.l0 k2 l0 l1 a2 (M ++ [(⟨ag.1,ag.2.1⟩ : S30)]) (rd_L2 l1 (n)) ((rd_L2 l1 (n)).length : Int) (wrap64 (j + 1))) else (none)) else (some (([] : List (S30)),false)))) = some (r1,r2) := YH af H;have ac := ZA af;clear af;replace H := YJ H;obtain ⟨⟨z,u,bH⟩,bA,H⟩ := H;try dsimp only at H
     replace H := YF H;rcases H with ⟨rfl,H⟩|⟨rfl,H⟩;rotate_left
     ·simp only [Option.some.injEq,Prod.mk.injEq] at H;obtain ⟨rfl,rfl⟩ := H;have U : 0 <= (j : Int) := ZD;have V : j < ((rd_L2 l1 (n)).length : Int) := ZD;obtain ⟨aB,ao,y⟩ := Kd.Eav ab.out j U V;cases ao;replace y := ZX HB y;replace U := eq_true U;replace V := eq_true V;have bd : (a2 : Int) <= ((l1.length : Int) : Int) := ZD;obtain ⟨bI,ak,_,aC,_⟩ := info_parts info28;have ad : l1.length <= c1 := aQ.out;have aD : Kd.C (Kd.slice 3 (Kd.int .i64)) _ (some I) l1.length l1 := ay.out;have ap := Edh (P := Tryz.prog) 25 28 .i64 Tryz.underlying25 ak (some I) l1.length c1 a2 ZD bd ad;have aq := Kd.Edb (m := (a2 : Int).toNat) aD (by omega);have ar : J.length = (a2 : Int).toNat := (by rw [ac.out,List.length_take];omega);rw [<- ac.out] at aq;rw [<- ar] at ap;have ah := ZA aq;have ai := ZA (show J.length <= c1 from by omega);clear aq aD ad ak aC;have bJ := ZA ar;clear ar;replace bd := eq_true bd
      go_wp2_with (first|((with_reducible refine Eb (f := 63) rfl ?_);refine Ecq (some 40) rfl rfl Tryz.func63 (by kernel_rfl) rfl #[.slice A0 l0.length c0,.slice (some I) J.length c1,.int .i64 (rd (rd_L2 l1 (n)) j),.int .i64 2] rfl (by (try simp only [List.map_toArray,List.map_cons,List.map_nil]);first|done|(simp only [D];rfl)|rfl|(simp only [List.length_drop,List.length_take];rfl)) ?_;(with_reducible refine (Fa.calls k2 _ _ l0 _ _ J (rd (rd_L2 l1 (n)) j) 2 z u false _ (ZR (Kd.Eac aO.out HB.out)) aP.out (ZR (Kd.Eac ah.out HB.out)) ai.out bA.out).mono ?_);rintro e bP ⟨bf,rfl,aE,hb⟩;refine ⟨_,rfl,?_⟩;replace s := ZA (Kd.S_elder' (ZKS s) (Kd.Eal aE) hb);have q := ZA (Kd.Eaz aE (SZ HB));replace HB := BS HB hb)|((with_reducible refine Eaf (N := 11) rfl ?_);(try (refine Ean (by rfl) ?_;dsimp only));refine ZE 11 #[.int .i64 0,.slice none 0 0] 30 ?_;intro d hg bB hbox hb;replace s := ZA (Kd.Eeb (Kd.Eez (ZKS s) d (Nat.le_of_eq hg.symm)) hb);replace q := ZBR q hb;have i := ZA (hbox);have aF := YQ hg HB;have aG := YQ hg HB;replace HB := BS HB hb;clear hb hbox hg;have aS : bB.cell? ⟨d,0,none⟩ = some (.int .i64 0) := ZC i 0 rfl;have aT : bB.cell? ⟨d,1,none⟩ = some (.slice none 0 0) := ZC i 1 rfl;have aU := Ea i.out 0;have aV := Ea i.out 1;obtain ⟨bK,bL,bg⟩ := Kd.Eai q.out;subst bg))
      go_ret2;exact ⟨_,by first|rfl|(simp [errW_none,errW_some] <;> rfl)|(simp only [<- D];first|rfl|(simp [errW_none,errW_some] <;> rfl))|(simp [*,errW_none,errW_some] <;> rfl),by first|exact Kd.Ees _ _ _ _ _|exact Kd.Eeu _ _ _ _ _|exact Kd.Eei _ _ _ _ _|exact Kd.Eet _ _ _ _ _|exact Kd.Edp _ _ _ _ _,ZQ HB⟩
     replace H := YM H;obtain ⟨bC,H⟩ := H;have aH := ZA bC;clear bC;obtain ⟨aI,aj⟩ : ∃ y_ : List (S30),y_ = (M ++ [(⟨z,u⟩ : S30)]) := ⟨_,rfl⟩;replace H : (FD.l0 k2 l0 l1 a2 aI (rd_L2 l1 (n)) ((rd_L2 l1 (n)).length : Int) (wrap64 (j + 1))) = some (r1,r2) := YH aj H;have aJ := ZA aj;clear aj;have H' := ZA H;clear H;have U : 0 <= (j : Int) := ZD;have V : j < ((rd_L2 l1 (n)).length : Int) := ZD;obtain ⟨aB,ao,y⟩ := Kd.Eav ab.out j U V;cases ao;replace y := ZX HB y;replace U := eq_true U;replace V := eq_true V;have bh : (a2 : Int) <= ((l1.length : Int) : Int) := ZD;obtain ⟨bM,al,_,aK,_⟩ := info_parts info28;have ae : l1.length <= c1 := aQ.out;have aM : Kd.C (Kd.slice 3 (Kd.int .i64)) _ (some I) l1.length l1 := ay.out;have au := Edh (P := Tryz.prog) 25 28 .i64 Tryz.underlying25 al (some I) l1.length c1 a2 ZD bh ae;have av := Kd.Edb (m := (a2 : Int).toNat) aM (by omega);have aw : J.length = (a2 : Int).toNat := (by rw [ac.out,List.length_take];omega);rw [<- ac.out] at av;rw [<- aw] at au;have ah := ZA av;have ai := ZA (show J.length <= c1 from by omega);clear av aM ae al aK;have bN := ZA aw;clear aw;replace bh := eq_true bh
     go_wp2_with (first|((with_reducible refine Eb (f := 63) rfl ?_);refine Ecq (some 40) rfl rfl Tryz.func63 (by kernel_rfl) rfl #[.slice A0 l0.length c0,.slice (some I) J.length c1,.int .i64 (rd (rd_L2 l1 (n)) j),.int .i64 2] rfl (by (try simp only [List.map_toArray,List.map_cons,List.map_nil]);first|done|(simp only [D];rfl)|rfl|(simp only [List.length_drop,List.length_take];rfl)) ?_;(with_reducible refine (Fa.calls k2 _ _ l0 _ _ J (rd (rd_L2 l1 (n)) j) 2 z u true _ (ZR (Kd.Eac aO.out HB.out)) aP.out (ZR (Kd.Eac ah.out HB.out)) ai.out bA.out).mono ?_);rintro e bQ ⟨bf,rfl,aE,hb⟩;refine ⟨_,rfl,?_⟩;replace s := ZA (Kd.S_elder' (ZKS s) (Kd.Eal aE) hb);have q := ZA (Kd.Eaz aE (SZ HB));replace HB := BS HB hb)|((with_reducible refine Eaf (N := 11) rfl ?_);(try (refine Ean (by rfl) ?_;dsimp only));refine ZE 11 #[.int .i64 0,.slice none 0 0] 30 ?_;intro d hg bi hbox hb;replace s := ZA (Kd.Eeb (Kd.Eez (ZKS s) d (Nat.le_of_eq hg.symm)) hb);replace q := ZBR q hb;have i := ZA (hbox);have aF := YQ hg HB;have aG := YQ hg HB;replace HB := BS HB hb;clear hb hbox hg;have aW : bi.cell? ⟨d,0,none⟩ = some (.int .i64 0) := ZC i 0 rfl;have aX : bi.cell? ⟨d,1,none⟩ = some (.slice none 0 0) := ZC i 1 rfl;have aY := Ea i.out 0;have aZ := Ea i.out 1;obtain ⟨E,G,bj⟩ := Kd.Eai q.out;subst bj)|((with_reducible refine Edu (t := 30) (p := 11) rfl ?_);refine Edj (t := 30) (p := 11) (v := ?vo_w27) (w1 := ((bi.setCell ⟨d,0,none⟩ (.int .i64 z)).setCell ⟨d,1,none⟩ (.slice E u.length G))) ?hg ?ho ?hn ?hr ?_;(case ho => rfl);(case hg => rfl);(case hn => rfl);(case hr => first|(go_simp;done)|(go_simp;rfl));intro ax hw;replace s : Aside0 (Kd.S k30 30 ax w.heap.size (fun k_ => some k_ ≠ (.slice E u.length G : Value).ownBlock ∧ k_ ≠ d) u8 M) := ⟨(by rw [hw];exact (ZKS ⟨Kd.Eby (Kd.Ejd (p := ⟨d,1,none⟩) (Kd.Ejd (p := ⟨d,0,none⟩) (Kd.Eby s.out (fun k_ hk => (⟨hk,hk.2⟩ : _ ∧ k_ ≠ d))) (fun _ hk => hk.2) (.int .i64 z)) (fun _ hk => hk.2) (.slice E u.length G)) (fun _ hk => ⟨hk.1.1.2,hk.1.2⟩)⟩))⟩;replace q : Aside0 (Kd.R (Kd.int .i64) 3 ax w.heap.size (fun _ => True) (.slice E u.length G) u) := ⟨(by rw [hw];exact (ZK ⟨Kd.Eaj (Kd.Ebd (p := ⟨d,1,none⟩) (Kd.Ebd (p := ⟨d,0,none⟩) (Kd.Eay q.out i.out (by decide)) (fun _ hk => hk.2) (.int .i64 z)) (fun _ hk => hk.2) (.slice E u.length G)) (fun _ hk => trivial)⟩))⟩;replace i : Aside0 (ax.heap[d]? = some (.cells #[.int .i64 z,.slice E u.length G] 30 (0,0))) := ⟨(by rw [hw];exact (by refine ZY ?_;refine Eae (cs := #[.int .i64 z,.slice none 0 0]) ?_ 1 _ rfl;refine ZY ?_;refine Eae (cs := #[.int .i64 0,.slice none 0 0]) ?_ 0 _ rfl;refine ZY ?_;exact i.out))⟩;replace HB : Aside0 (Below w.heap.size w ax) := ⟨(by rw [hw];exact (ZQ HB))⟩;clear hw;have a0 : ax.cell? ⟨d,0,none⟩ = some (.int .i64 z) := ZC i 0 rfl;have a1 : ax.cell? ⟨d,1,none⟩ = some (.slice E u.length G) := ZC i 1 rfl;have a3 := Ea i.out 0;have a4 := Ea i.out 1)|((with_reducible refine Eao (b := .append) (xs := #[.tmp 45,.tmp 47]) rfl ?_);(try (refine Ean (by rfl) ?_;dsimp only));at_builtin;refine Kd.Ef k30 (w0 := w) w.heap.size rfl (.tmp 45) (.tmp 47) 47 30 (.agg #[(.int .i64 0),(.slice none 0 0)]) 32 rfl Tryz.underlying47 info30 rfl (by decide) (by omega) u8 M (⟨z,u⟩ : S30) [.int .i64 z,.slice E u.length G] (fun k_ => k_ ≠ d) (fun k_ => some k_ = (.slice E u.length G : Value).ownBlock) rfl rfl (k30_mkM _ _ _ (⟨z,u⟩ : S30) (Kd.Eaj (Kd.Eep rfl (Kd.Eaj (ok' := fun k_ => ((fun k_ => k_ ≠ d)) k_ ∧ some k_ ≠ (u8 : Value).ownBlock) (Kd.Eay (Kd.R_apart' (q.out) (Kd.Edc s.out) (by decide)) i.out (by decide)) (fun k_ hk => ⟨hk.2,hk.1.2⟩))) (fun _ h_ => h_))) (fun k_ hk_ => ((Kd.Eaj (ok' := fun k_ => ((fun k_ => k_ ≠ d)) k_ ∧ some k_ ≠ (u8 : Value).ownBlock) (Kd.Eay (Kd.R_apart' (q.out) (Kd.Edc s.out) (by decide)) i.out (by decide)) (fun k_ hk => ⟨hk.2,hk.1.2⟩))).1 k_ hk_.symm) (fun k_ hk => Kd.Ebr (ZH i) k_ hk) (ZKS ⟨Kd.Eby s.out (fun k_ hk => ⟨hk.2,fun e_ => hk.1 e_⟩)⟩) (ZQ HB) (SZ HB) ?aL ?_;(case aL => have := aH.out;omega);intro bO bR ho hb hg hat;rw [<- aJ.out] at ho;replace i := ZA (Ebb (g := d) (o := .cells #[.int .i64 z,.slice E u.length G] 30 (0,0)) (ZH i) hg (Kd.Elx s.out (fun _ hk => hk.2)));replace HB := ZA (hb);have aN := ZA (ho);clear s q;clear ho hb hg hat))
     go_roundg k2
     case measure => have := bp.out;have := bs.out;omega
     case rel => exact ⟨(aI),(wrap64 (j + 1)),ZG,H',⟨by have := bp.out;have := bs.out;omega⟩,⟨ZKS ⟨Kd.Eby aN.out (fun _ hk => trivial)⟩⟩,⟨ZQ HB⟩⟩
mutual
def FF.j0 : Nat -> List (S41) -> List (List Int) -> Int -> Bool -> Option ((List (S30)) × Bool)
 | 0,_,_,_,_ => none
 | k + 1,x0,x1,x2,d => if d = true then (some (([] : List (S30)),false)) else (if 0 <= (wrap64 (x2 - 1)) then (if (wrap64 (x2 - 1)) < (x1.length : Int) then (FF.l0 k x0 x1 x2 ([] : List (S30)) (rd_L2 x1 (wrap64 (x2 - 1))) ((rd_L2 x1 (wrap64 (x2 - 1))).length : Int) 0) else (none)) else (none))
def FF.l0 : Nat -> List (S41) -> List (List Int) -> Int -> List (S30) -> List Int -> Int -> Int -> Option ((List (S30)) × Bool)
 | 0,_,_,_,_,_,_,_ => none
 | k + 1,x0,x1,x2,x8,i,m,g => if g < m then (if 0 <= g then (if g < (i.length : Int) then ((Fm.f k x1 x2).bind fun j => ((Fk.f k x0 j (rd i g) 2).bind fun d => (if d.2.2 = true then (if x8.length < 4398046511104 then (FF.l0 k x0 x1 x2 (x8 ++ [(⟨d.1,d.2.1⟩ : S30)]) i m (wrap64 (g + 1))) else (none)) else (some (([] : List (S30)),false))))) else (none)) else (none)) else (some (x8,true))
end
def FF.f (k : Nat) (l0 : List (S41)) (l1 : List (List Int)) (a2 : Int) : Option ((List (S30)) × Bool) := (FV.f k l0 l1 a2).bind fun d => (if d = true then (FF.j0 k l0 l1 a2 (a2 == 0)) else (FF.j0 k l0 l1 a2 true))
set_option maxHeartbeats 3000000 in
set_option maxRecDepth 100000 in
theorem FF.calls (k : Nat) (A0 : Option Addr) (c0 : Nat) (l0 : List (S41)) (A1 : Option Addr) (c1 : Nat) (l1 : List (List Int)) (a2 : Int) (r1 : List (S30)) (r2 : Bool) (w : World) (a4 : Kd.C k41 w A0 l0.length l0) (a5 : l0.length <= c0) (a6 : Kd.C (Kd.slice 3 (Kd.int .i64)) w A1 l1.length l1) (a7 : l1.length <= c1) (h : FF.f k l0 l1 a2 = some (r1,r2)) :
  Calls Tryz.prog 20 #[.slice A0 l0.length c0,.slice A1 l1.length c1,.int .i64 a2] w fun e w' => ∃ a8 : Value,e = .returned (.tuple #[a8,.bool r2]) ∧ Kd.N k30 30 w' w.heap.size (fun k_ => (w.heap.size <= k_)) a8 r1 ∧ Below w.heap.size w w' := by
 have bk := Tryz.underlying30;have aw := ZA a4;have ax := ZA a5;clear a4 a5;have aj := ZA a6;have ay := ZA a7;clear a6 a7;have HB := ZA (Below.refl w.heap.size w);have H := h;clear h;unfold FF.f at H;have aN := ZA H;clear H;go_enter Tryz.func20,Tryz.ntmps20
 go_upto_region 1 with (fail)
 go_cut [21] (fun bl wc => ∃ (kq : Nat) (U : Bool),bl = .bool U ∧ Aside0 (FF.j0 kq l0 l1 a2 U = some (r1,r2)) ∧ Aside0 (kq <= k) ∧ Aside0 (Below w.heap.size w wc))
 case first =>
  have H := aN.out;clear aN;replace H := YJ H;obtain ⟨aO,A5,H⟩ := H;by_cases c6 : aO = true
  ·subst c6;rw [if_pos rfl] at H;have H' := ZA H;clear H
   go_wp2_with (first|((with_reducible refine YG 64 ?_);refine YC (some 16) Tryz.func64 #[.slice A0 l0.length c0,.slice A1 l1.length c1,.int .i64 a2] (FV.calls k _ _ l0 _ _ l1 a2 true _ (ZR (Kd.Eac aw.out HB.out)) ax.out (ZR (Kd.Eac aj.out HB.out)) ay.out A5.out) ?_;rintro e w7 ⟨rfl,hb⟩;refine ⟨_,rfl,?_⟩;replace HB := BS HB hb))
   go_meet
   case rel => exact ⟨_,((a2 == 0)),ZG,H',⟨YO⟩,⟨ZQ HB⟩⟩
  replace c6 := Bool.eq_false_iff.mpr c6;subst c6;rw [if_neg (show ¬ (false = true) by decide)] at H;have H' := ZA H;clear H
  go_wp2_with (first|((with_reducible refine YG 64 ?_);refine YC (some 16) Tryz.func64 #[.slice A0 l0.length c0,.slice A1 l1.length c1,.int .i64 a2] (FV.calls k _ _ l0 _ _ l1 a2 false _ (ZR (Kd.Eac aw.out HB.out)) ax.out (ZR (Kd.Eac aj.out HB.out)) ay.out A5.out) ?_;rintro e w8 ⟨rfl,hb⟩;refine ⟨_,rfl,?_⟩;replace HB := BS HB hb))
  go_meet
  case rel => exact ⟨_,(true),ZG,H',⟨YO⟩,⟨ZQ HB⟩⟩
 case rest =>
  clear aN;obtain ⟨kq,U,rfl,HA,a9,HB⟩ := hcut;cases kq with
  | zero => exact absurd HA.out (by simp [FF.j0])
  | succ aP =>
   have H := HA.out;clear HA;simp only [FF.j0] at H;by_cases c9 : U = true
   ·subst c9;rw [if_pos rfl] at H;simp only [Option.some.injEq,Prod.mk.injEq] at H;obtain ⟨rfl,rfl⟩ := H;go_wp2;go_ret2;exact ⟨_,YR,by first|exact Kd.Ees _ _ _ _ _|exact Kd.Eeu _ _ _ _ _|exact Kd.Eei _ _ _ _ _|exact Kd.Eet _ _ _ _ _|exact Kd.Edp _ _ _ _ _,ZQ HB⟩
   replace c9 := Bool.eq_false_iff.mpr c9;subst c9;rw [if_neg (show ¬ (false = true) by decide)] at H;obtain ⟨s,D⟩ : ∃ j_ : Int,(wrap64 (a2 - 1)) = j_ := ⟨_,rfl⟩;replace H : (if 0 <= (s) then (if (s) < (l1.length : Int) then (FF.l0 aP l0 l1 a2 ([] : List (S30)) (rd_L2 l1 (s)) ((rd_L2 l1 (s)).length : Int) 0) else (none)) else (none)) = some (r1,r2) := by first|(rw [D] at H;exact H)|(simp only [D] at H ⊢;exact H)
   have aQ : (IntKind.i64.wrap (a2 - 1)) = s := (Ecw _).trans D;replace H := YN H;obtain ⟨ba,H⟩ := H;replace H := YN H;obtain ⟨bb,H⟩ := H;have H' := ZA H;clear H;have ae : 0 <= ((s) : Int) := ZD;have af : (s) < (l1.length : Int) := ZD;obtain ⟨ad,aR,aS,aT,X,Y,Z⟩ := at_L2 aj.out (s) ae af;cases aT;replace X := ZX HB X;have aa := ZA Z;have az := ZA Y;clear Z Y;replace ae := eq_true ae;replace af := eq_true af;go_wp2
   go_loopg [8,28] aP (fun kq v8 bm w' => ∃ (ab : List (S30)) (m : Int),bm = .int .i64 m ∧ Aside0 (FF.l0 kq l0 l1 a2 ab (rd_L2 l1 (s)) ((rd_L2 l1 (s)).length : Int) m = some (r1,r2)) ∧ Aside0 (kq <= aP) ∧ Aside0 (Kd.N k30 30 w' w.heap.size (fun k_ => (w.heap.size <= k_)) v8 ab) ∧ Aside0 (Below w.heap.size w w'))
   case atStart => exact ⟨(([] : List (S30))),(0),ZG,H',⟨Nat.le_refl _⟩,⟨YE⟩,⟨ZQ HB⟩⟩
   case round =>
    clear H';obtain ⟨ab,m,rfl,HA,bc,n,HB⟩ := hrel;cases gk with
    | zero => exact absurd HA.out (by simp [FF.l0])
    | succ k2 =>
     have H := HA.out;clear HA;simp only [FF.l0] at H;replace H := YI H;rcases H with ⟨ak,H⟩|⟨ak,H⟩;rotate_left
     ·simp only [Option.some.injEq,Prod.mk.injEq] at H;obtain ⟨rfl,rfl⟩ := H;go_wp2;go_ret2;exact ⟨_,by first|rfl|(simp [errW_none,errW_some] <;> rfl)|(simp only [<- D];first|rfl|(simp [errW_none,errW_some] <;> rfl))|(simp [*,errW_none,errW_some] <;> rfl),ZKN n,ZQ HB⟩
     replace H := YN H;obtain ⟨bd,H⟩ := H;replace H := YN H;obtain ⟨bf,H⟩ := H;replace H := YJ H;obtain ⟨I,bg,H⟩ := H;replace H := YJ H;obtain ⟨⟨y,u,bn⟩,bh,H⟩ := H;try dsimp only at H
     replace H := YF H;rcases H with ⟨rfl,H⟩|⟨rfl,H⟩;rotate_left
     ·simp only [Option.some.injEq,Prod.mk.injEq] at H;obtain ⟨rfl,rfl⟩ := H;have J : 0 <= (m : Int) := ZD;have M : m < ((rd_L2 l1 (s)).length : Int) := ZD;obtain ⟨al,ag,z⟩ := Kd.Eav aa.out m J M;cases ag;replace z := ZX HB z;replace J := eq_true J;replace M := eq_true M
      go_wp2_with (first|((with_reducible refine YG 67 ?_);refine YC (some 36) Tryz.func67 #[.slice (some ad) l1.length c1,.int .i64 a2] (Fm.calls k2 _ _ l1 a2 I _ (ZR (Kd.Eac aj.out HB.out)) ay.out bg.out) ?_;rintro e br ⟨aU,rfl,ah,hb⟩;refine ⟨_,rfl,?_⟩;have i := ZA (Kd.Edq (Kd.Eat (ok' := fun k_ => (w.heap.size <= k_) ∧ some k_ ≠ (u8 : Value).ownBlock) ah (fun k_ hk_ => ⟨(Nat.le_trans (SZ HB) hk_),(Kd.fresh' (Kd.N_lt (ZKN n)) k_ hk_)⟩)) (SZ HB));replace n := ZBN n hb;replace HB := BS HB hb;obtain ⟨aV,aW,aX⟩ := Kd.Edk i.out;subst aX)|((with_reducible refine Eb (f := 66) rfl ?_);refine Ecq (some 38) rfl rfl Tryz.func66 (by kernel_rfl) rfl #[.slice A0 l0.length c0,.slice aV I.length aW,.int .i64 (rd (rd_L2 l1 (s)) m),.int .i64 2] rfl (by (try simp only [List.map_toArray,List.map_cons,List.map_nil]);first|done|(simp only [D];rfl)|rfl|(simp only [List.length_drop,List.length_take];rfl)) ?_;(with_reducible refine (Fk.calls k2 _ _ l0 _ _ I (rd (rd_L2 l1 (s)) m) 2 y u false _ (ZR (Kd.Eac aw.out HB.out)) ax.out (WV i) (CV i) bh.out).mono ?_);rintro e bs ⟨aY,rfl,ah,hb⟩;refine ⟨_,rfl,?_⟩;replace i := ZBV i hb;have q := ZA (Kd.Edq (Kd.Eat (ok' := fun k_ => (w.heap.size <= k_) ∧ some k_ ≠ (u8 : Value).ownBlock) ah (fun k_ hk_ => ⟨(Nat.le_trans (SZ HB) hk_),(Kd.fresh' (Kd.N_lt (ZKN n)) k_ hk_)⟩)) (SZ HB));replace n := ZBN n hb;replace HB := BS HB hb)|((with_reducible refine Eaf (N := 11) rfl ?_);refine ZE 11 #[.int .i64 0,.slice none 0 0] 30 ?_;intro d hg bi hbox hb;replace n := ZA (Kd.Eah (Kd.Eax (ZKN n) d (Nat.le_of_eq hg.symm)) hb);replace i := ZA (Kd.Ebn (Kd.Eci (ZKV i) d (Nat.le_of_eq hg.symm)) hb);replace q := ZA (Kd.Ebn (Kd.Eci (ZKV q) d (Nat.le_of_eq hg.symm)) hb);have j := ZA (hbox);have am := YQ hg HB;have an := YQ hg HB;replace HB := BS HB hb;clear hb hbox hg;have aA : bi.cell? ⟨d,0,none⟩ = some (.int .i64 0) := ZC j 0 rfl;have aB : bi.cell? ⟨d,1,none⟩ = some (.slice none 0 0) := ZC j 1 rfl;have aC := Ea j.out 0;have aD := Ea j.out 1;obtain ⟨bo,bp,aZ⟩ := Kd.Edk q.out;subst aZ))
      go_ret2;exact ⟨_,by first|rfl|(simp [errW_none,errW_some] <;> rfl)|(simp only [<- D];first|rfl|(simp [errW_none,errW_some] <;> rfl))|(simp [*,errW_none,errW_some] <;> rfl),by first|exact Kd.Ees _ _ _ _ _|exact Kd.Eeu _ _ _ _ _|exact Kd.Eei _ _ _ _ _|exact Kd.Eet _ _ _ _ _|exact Kd.Edp _ _ _ _ _,ZQ HB⟩
     replace H := YM H;obtain ⟨bj,H⟩ := H;have ao := ZA bj;clear bj;obtain ⟨ap,ac⟩ : ∃ y_ : List (S30),y_ = (ab ++ [(⟨y,u⟩ : S30)]) := ⟨_,rfl⟩;replace H : (FF.l0 k2 l0 l1 a2 ap (rd_L2 l1 (s)) ((rd_L2 l1 (s)).length : Int) (wrap64 (m + 1))) = some (r1,r2) := YH ac H;have aq := ZA ac;clear ac;have H' := ZA H;clear H;have J : 0 <= (m : Int) := ZD;have M : m < ((rd_L2 l1 (s)).length : Int) := ZD;obtain ⟨al,ag,z⟩ := Kd.Eav aa.out m J M;cases ag;replace z := ZX HB z;replace J := eq_true J;replace M := eq_true M
     go_wp2_with (first|((with_reducible refine YG 67 ?_);refine YC (some 36) Tryz.func67 #[.slice (some ad) l1.length c1,.int .i64 a2] (Fm.calls k2 _ _ l1 a2 I _ (ZR (Kd.Eac aj.out HB.out)) ay.out bg.out) ?_;rintro e bt ⟨aU,rfl,ah,hb⟩;refine ⟨_,rfl,?_⟩;have i := ZA (Kd.Edq (Kd.Eat (ok' := fun k_ => (w.heap.size <= k_) ∧ some k_ ≠ (u8 : Value).ownBlock) ah (fun k_ hk_ => ⟨(Nat.le_trans (SZ HB) hk_),(Kd.fresh' (Kd.N_lt (ZKN n)) k_ hk_)⟩)) (SZ HB));replace n := ZBN n hb;replace HB := BS HB hb;obtain ⟨ar,au,a0⟩ := Kd.Edk i.out;subst a0)|((with_reducible refine Eb (f := 66) rfl ?_);refine Ecq (some 38) rfl rfl Tryz.func66 (by kernel_rfl) rfl #[.slice A0 l0.length c0,.slice ar I.length au,.int .i64 (rd (rd_L2 l1 (s)) m),.int .i64 2] rfl (by (try simp only [List.map_toArray,List.map_cons,List.map_nil]);first|done|(simp only [D];rfl)|rfl|(simp only [List.length_drop,List.length_take];rfl)) ?_;(with_reducible refine (Fk.calls k2 _ _ l0 _ _ I (rd (rd_L2 l1 (s)) m) 2 y u true _ (ZR (Kd.Eac aw.out HB.out)) ax.out (WV i) (CV i) bh.out).mono ?_);rintro e bu ⟨aY,rfl,ah,hb⟩;refine ⟨_,rfl,?_⟩;replace i := ZBV i hb;have q := ZA (Kd.Edq (Kd.Eat (ok' := fun k_ => (w.heap.size <= k_) ∧ some k_ ≠ (u8 : Value).ownBlock) ah (fun k_ hk_ => ⟨(Nat.le_trans (SZ HB) hk_),(Kd.fresh' (Kd.N_lt (ZKN n)) k_ hk_)⟩)) (SZ HB));replace n := ZBN n hb;replace HB := BS HB hb)|((with_reducible refine Eaf (N := 11) rfl ?_);refine ZE 11 #[.int .i64 0,.slice none 0 0] 30 ?_;intro d hg a1 hbox hb;replace n := ZA (Kd.Eah (Kd.Eax (ZKN n) d (Nat.le_of_eq hg.symm)) hb);replace i := ZA (Kd.Ebn (Kd.Eci (ZKV i) d (Nat.le_of_eq hg.symm)) hb);replace q := ZA (Kd.Ebn (Kd.Eci (ZKV q) d (Nat.le_of_eq hg.symm)) hb);have j := ZA (hbox);have am := YQ hg HB;have an := YQ hg HB;replace HB := BS HB hb;clear hb hbox hg;have aE : a1.cell? ⟨d,0,none⟩ = some (.int .i64 0) := ZC j 0 rfl;have aF : a1.cell? ⟨d,1,none⟩ = some (.slice none 0 0) := ZC j 1 rfl;have aG := Ea j.out 0;have aH := Ea j.out 1;obtain ⟨E,G,a3⟩ := Kd.Edk q.out;subst a3)|((with_reducible refine Edu (t := 30) (p := 11) rfl ?_);refine Edj (t := 30) (p := 11) (v := ?vo_w26) (w1 := ((a1.setCell ⟨d,0,none⟩ (.int .i64 y)).setCell ⟨d,1,none⟩ (.slice E u.length G))) ?hg ?ho ?hn ?hr ?_;(case ho => rfl);(case hg => rfl);(case hn => rfl);(case hr => first|(go_simp;done)|(go_simp;rfl));intro ai hw;replace n : Aside0 (Kd.N k30 30 ai w.heap.size (fun k_ => (w.heap.size <= k_) ∧ k_ ≠ d) u8 ab) := ⟨(by rw [hw];exact (ZKN ⟨Kd.Ead (Kd.Eaq (p := ⟨d,1,none⟩) (Kd.Eaq (p := ⟨d,0,none⟩) (Kd.Ead n.out (fun k_ hk => (⟨hk,hk.2⟩ : _ ∧ k_ ≠ d))) (fun _ hk => hk.2) (.int .i64 y)) (fun _ hk => hk.2) (.slice E u.length G)) (fun _ hk => ⟨hk.1.1,hk.1.2⟩)⟩))⟩;replace i : Aside0 (Kd.V (Kd.int .i64) 3 ai w.heap.size (fun k_ => (w.heap.size <= k_) ∧ some k_ ≠ (u8 : Value).ownBlock ∧ k_ ≠ d) (.slice ar I.length au) I) := ⟨(by rw [hw];exact (ZKV ⟨Kd.Eat (Kd.Ebq (p := ⟨d,1,none⟩) (Kd.Ebq (p := ⟨d,0,none⟩) (Kd.Eat i.out (fun k_ hk => (⟨hk,hk.2⟩ : _ ∧ k_ ≠ d))) (fun _ hk => hk.2) (.int .i64 y)) (fun _ hk => hk.2) (.slice E u.length G)) (fun _ hk => ⟨hk.1.1.1,⟨hk.1.1.2,hk.1.2⟩⟩)⟩))⟩;replace q : Aside0 (Kd.V (Kd.int .i64) 3 ai w.heap.size (fun k_ => (w.heap.size <= k_) ∧ some k_ ≠ (u8 : Value).ownBlock ∧ k_ ≠ d) (.slice E u.length G) u) := ⟨(by rw [hw];exact (ZKV ⟨Kd.Eat (Kd.Ebq (p := ⟨d,1,none⟩) (Kd.Ebq (p := ⟨d,0,none⟩) (Kd.Eat q.out (fun k_ hk => (⟨hk,hk.2⟩ : _ ∧ k_ ≠ d))) (fun _ hk => hk.2) (.int .i64 y)) (fun _ hk => hk.2) (.slice E u.length G)) (fun _ hk => ⟨hk.1.1.1,⟨hk.1.1.2,hk.1.2⟩⟩)⟩))⟩;replace j : Aside0 (ai.heap[d]? = some (.cells #[.int .i64 y,.slice E u.length G] 30 (0,0))) := ⟨(by rw [hw];exact (by refine ZY ?_;refine Eae (cs := #[.int .i64 y,.slice none 0 0]) ?_ 1 _ rfl;refine ZY ?_;refine Eae (cs := #[.int .i64 0,.slice none 0 0]) ?_ 0 _ rfl;refine ZY ?_;exact j.out))⟩;replace HB : Aside0 (Below w.heap.size w ai) := ⟨(by rw [hw];exact (ZQ HB))⟩;clear hw;have aI : ai.cell? ⟨d,0,none⟩ = some (.int .i64 y) := ZC j 0 rfl;have aJ : ai.cell? ⟨d,1,none⟩ = some (.slice E u.length G) := ZC j 1 rfl;have aK := Ea j.out 0;have aM := Ea j.out 1)|((with_reducible refine Eao (b := .append) (xs := #[.tmp 43,.tmp 45]) rfl ?_);at_builtin;refine Kd.Eha k30 (w0 := w) w.heap.size rfl (.tmp 43) (.tmp 45) 47 30 (.agg #[(.int .i64 0),(.slice none 0 0)]) 32 rfl Tryz.underlying47 info30 rfl (by decide) (by omega) u8 ab (⟨y,u⟩ : S30) [.int .i64 y,.slice E u.length G] (fun k_ => (w.heap.size <= k_) ∧ k_ ≠ d) (fun k_ => ((fun k_ => (w.heap.size <= k_) ∧ k_ ≠ d)) k_ ∧ some k_ ≠ (u8 : Value).ownBlock) rfl rfl (k30_mkF _ _ (⟨y,u⟩ : S30) (Kd.V_reads' (Kd.Eat (ok' := (fun k_ => ((fun k_ => (w.heap.size <= k_) ∧ k_ ≠ d)) k_ ∧ some k_ ≠ (u8 : Value).ownBlock)) (q.out) (fun k_ hk => ⟨⟨hk.1,hk.2.2⟩,hk.2.1⟩))).2.1 (Kd.V_F (Kd.Eat (ok' := (fun k_ => ((fun k_ => (w.heap.size <= k_) ∧ k_ ≠ d)) k_ ∧ some k_ ≠ (u8 : Value).ownBlock)) (q.out) (fun k_ hk => ⟨⟨hk.1,hk.2.2⟩,hk.2.1⟩)))) (fun _ hk => hk) (fun k_ hk => ⟨(Nat.le_trans (SZ HB) hk),Kd.Ebr (ZH j) k_ hk⟩) (ZKN n) (ZQ HB) (SZ HB) ?aL ?_;(case aL => have := ao.out;omega);intro bq bv ho hb hg hat;rw [<- aq.out] at ho;replace i := ZA (Kd.Ecb (ok := (fun k_ => (w.heap.size <= k_) ∧ k_ ≠ d)) (ZKV ⟨Kd.Eat i.out (fun _ hk => ⟨⟨hk.1,hk.2.2⟩,hk.2.1⟩)⟩) hg hat);replace q := ZA (Kd.Ecb (ok := (fun k_ => (w.heap.size <= k_) ∧ k_ ≠ d)) (ZKV ⟨Kd.Eat q.out (fun _ hk => ⟨⟨hk.1,hk.2.2⟩,hk.2.1⟩)⟩) hg hat);replace j := ZA (Ebb (g := d) (o := .cells #[.int .i64 y,.slice E u.length G] 30 (0,0)) (ZH j) hg (Kd.Eoh n.out (fun _ hk => hk.2)));replace HB := ZA (hb);have av := ZA (ho);clear n;clear ho hb hg hat))
     go_roundg k2
     case measure => have := a9.out;have := bc.out;omega
     case rel => exact ⟨(ap),(wrap64 (m + 1)),ZG,H',⟨by have := a9.out;have := bc.out;omega⟩,⟨ZKN ⟨Kd.Ead av.out (fun _ hk => hk.1)⟩⟩,⟨ZQ HB⟩⟩
def FC.l0 : Nat -> List (S30) -> List (S30) -> Int -> Int -> Option (Bool)
 | 0,_,_,_,_ => none
 | k + 1,x0,x1,i,d => if d < i then (if 0 <= d then (if d < (x0.length : Int) then (if d < (x1.length : Int) then (if ((rd_T30 x0 d).f0) = ((rd_T30 x1 d).f0) then ((FJ.f k ((rd_T30 x0 d).f1) ((rd_T30 x1 d).f1)).bind fun g => (if g = true then (FC.l0 k x0 x1 i (wrap64 (d + 1))) else (some false))) else (some false)) else (none)) else (none)) else (none)) else (some true)
def FC.f (k : Nat) (l0 : List (S30)) (l1 : List (S30)) : Option (Bool) := if (l0.length : Int) = (l1.length : Int) then (FC.l0 k l0 l1 (l0.length : Int) 0) else (some false)
set_option maxHeartbeats 3000000 in
set_option maxRecDepth 100000 in
theorem FC.calls (k : Nat) (A0 : Option Addr) (c0 : Nat) (l0 : List (S30)) (A1 : Option Addr) (c1 : Nat) (l1 : List (S30)) (r : Bool) (w : World) (aH : Kd.C k30 w A0 l0.length l0) (aI : l0.length <= c0) (aJ : Kd.C k30 w A1 l1.length l1) (aK : l1.length <= c1) (h : FC.f k l0 l1 = some r) :
  Calls Tryz.prog 21 #[.slice A0 l0.length c0,.slice A1 l1.length c1] w fun e w' => e = .returned (.bool r) ∧ Drawn0 w w' := by
 have az := ZA aH;have aR := ZA aI;clear aH aI;have aA := ZA aJ;have aS := ZA aK;clear aJ aK;have H : (if (l0.length : Int) = (l1.length : Int) then (FC.l0 k l0 l1 (l0.length : Int) 0) else (some false)) = some r := h;clear h;by_cases c3 : (l0.length : Int) = (l1.length : Int);rotate_left
 ·rw [if_neg c3] at H;have aB : ((l0.length : Int) == (l1.length : Int)) = false := beq_eq_false_iff_ne.mpr c3;have aC : ((l0.length : Int) != (l1.length : Int)) = true := bne_iff_ne.mpr c3;have aD : (l0.length == l1.length) = false := by first|simpa using c3|(simp at c3 ⊢;omega)
  obtain rfl := Option.some.inj H;go_enter Tryz.func21,Tryz.ntmps21;go_wp2
  repeat (go_quiet (fail);try go_wp2)
  go_ret;exact ⟨by first|rfl|(simp;done)|(simp [*];done),by repeat (first|exact Drawn0.refl _|apply Drawn0.step)⟩
 rw [if_pos c3] at H;have aB : ((l0.length : Int) == (l1.length : Int)) = true := beq_iff_eq.mpr c3;have aC : ((l0.length : Int) != (l1.length : Int)) = false := bne_eq_false_iff_eq.mpr c3;have aD : (l0.length == l1.length) = true := by first|simpa using c3|(simp at c3 ⊢;omega)
 clear c3;have H' := ZA H;clear H;go_enter Tryz.func21,Tryz.ntmps21;go_wp2
 repeat (go_quiet (fail);try go_wp2)
 go_loopg [13] k (fun kq aM w' => ∃ (d : Int),aM = .int .i64 d ∧ Aside0 (FC.l0 kq l0 l1 (l0.length : Int) d = some r) ∧ Aside0 (kq <= k) ∧ Drawn0 w w')
 case atStart => exact ⟨(0),ZG,H',⟨Nat.le_refl _⟩,by repeat (first|exact Drawn0.refl _|apply Drawn0.step)⟩
 case round =>
  clear H';obtain ⟨d,rfl,HA,aL,⟨m1,rfl⟩⟩ := hrel;cases gk with
  | zero => exact absurd HA.out (by simp [FC.l0])
  | succ k1 =>
   have H := HA.out;clear HA;simp only [FC.l0] at H;replace H := YI H;rcases H with ⟨aE,H⟩|⟨aE,H⟩;rotate_left
   ·obtain rfl := Option.some.inj H;go_wp2
    repeat (go_quiet (fail);try go_wp2)
    go_ret;exact ⟨by first|rfl|(simp;done)|(simp [*];done),by repeat (first|exact Drawn0.refl _|apply Drawn0.step)⟩
   replace H := YN H;obtain ⟨aN,H⟩ := H;replace H := YN H;obtain ⟨aO,H⟩ := H;replace H := YN H;obtain ⟨aP,H⟩ := H;by_cases c8 : ((rd_T30 l0 d).f0) = ((rd_T30 l1 d).f0);rotate_left
   ·rw [if_neg c8] at H;have aF : (((rd_T30 l0 d).f0) == ((rd_T30 l1 d).f0)) = false := beq_eq_false_iff_ne.mpr c8;have aG : (((rd_T30 l0 d).f0) != ((rd_T30 l1 d).f0)) = true := bne_iff_ne.mpr c8;obtain rfl := Option.some.inj H;have D : 0 <= (d : Int) := ZD;have E : d < (l0.length : Int) := ZD;obtain ⟨Z,ah,ai,aj,aa,y,g,i⟩ := at_T30 az.out d D E;cases aj;have ab := ZA i;have ac := ZA g;clear i g;replace D := eq_true D;replace E := eq_true E;have G : 0 <= (d : Int) := ZD;have I : d < (l1.length : Int) := ZD;obtain ⟨ad,ak,al,am,ae,z,j,m⟩ := at_T30 aA.out d G I;cases am;have af := ZA m;have ag := ZA j;clear m j;replace G := eq_true G;replace I := eq_true I;go_wp2
    repeat (go_quiet (fail);try go_wp2)
    go_ret;exact ⟨by first|rfl|(simp;done)|(simp [*];done),by repeat (first|exact Drawn0.refl _|apply Drawn0.step)⟩
   rw [if_pos c8] at H;have aF : (((rd_T30 l0 d).f0) == ((rd_T30 l1 d).f0)) = true := beq_iff_eq.mpr c8;have aG : (((rd_T30 l0 d).f0) != ((rd_T30 l1 d).f0)) = false := bne_eq_false_iff_eq.mpr c8;clear c8;replace H := YJ H;obtain ⟨aQ,A9,H⟩ := H;replace H := YF H;rcases H with ⟨rfl,H⟩|⟨rfl,H⟩;rotate_left
   ·obtain rfl := Option.some.inj H;have D : 0 <= (d : Int) := ZD;have E : d < (l0.length : Int) := ZD;obtain ⟨Z,ah,ai,aj,aa,y,g,i⟩ := at_T30 az.out d D E;cases aj;have ab := ZA i;have ac := ZA g;clear i g;replace D := eq_true D;replace E := eq_true E;have G : 0 <= (d : Int) := ZD;have I : d < (l1.length : Int) := ZD;obtain ⟨ad,ak,al,am,ae,z,j,m⟩ := at_T30 aA.out d G I;cases am;have af := ZA m;have ag := ZA j;clear m j;replace G := eq_true G;replace I := eq_true I;have U : 0 <= (d : Int) := ZD;have V : d < (l0.length : Int) := ZD;obtain ⟨an,ar,au,av,ap,J,s,t⟩ := at_T30 az.out d U V;obtain rfl : Z = an := (by injection av);have n := ZA t;have o := ZA s;clear t s;replace U := eq_true U;replace V := eq_true V;have ea_ := Option.some.inj (y.symm.trans J);injection ea_ with ea_ en_ ec_
    subst ea_;subst ec_;clear en_;have X : 0 <= (d : Int) := ZD;have Y : d < (l1.length : Int) := ZD;obtain ⟨ao,aw,ax,ay,aq,M,u,v⟩ := at_T30 aA.out d X Y;obtain rfl : ad = ao := (by injection ay);have p := ZA v;have q := ZA u;clear v u;replace X := eq_true X;replace Y := eq_true Y;have ea_ := Option.some.inj (z.symm.trans M);injection ea_ with ea_ en_ ec_
    subst ea_;subst ec_;clear en_
    go_wp2_with (first|(go_at_call 10;(with_reducible refine (FJ.calls k1 _ _ ((rd_T30 l0 d).f1) _ _ ((rd_T30 l1 d).f1) false _ (ZR n.out) o.out (ZR p.out) q.out A9.out).mono ?_);rintro e w' ⟨rfl,⟨nd,rfl⟩⟩;(try first|exact ⟨rfl,_,World.drewN_drewN _ _ _⟩|exact ⟨rfl,_,YW _ _ _ _⟩)))
    repeat (go_quiet (first|(go_at_call 10;(with_reducible refine (FJ.calls k1 _ _ ((rd_T30 l0 d).f1) _ _ ((rd_T30 l1 d).f1) false _ (ZR n.out) o.out (ZR p.out) q.out A9.out).mono ?_);rintro e w' ⟨rfl,⟨nd,rfl⟩⟩;(try first|exact ⟨rfl,_,World.drewN_drewN _ _ _⟩|exact ⟨rfl,_,YW _ _ _ _⟩)));try go_wp2_with (first|(go_at_call 10;(with_reducible refine (FJ.calls k1 _ _ ((rd_T30 l0 d).f1) _ _ ((rd_T30 l1 d).f1) false _ (ZR n.out) o.out (ZR p.out) q.out A9.out).mono ?_);rintro e w' ⟨rfl,⟨nd,rfl⟩⟩;(try first|exact ⟨rfl,_,World.drewN_drewN _ _ _⟩|exact ⟨rfl,_,YW _ _ _ _⟩))))
    go_ret;exact ⟨by first|rfl|(simp;done)|(simp [*];done),by repeat (first|exact Drawn0.refl _|apply Drawn0.step)⟩
   have H' := ZA H;clear H;have D : 0 <= (d : Int) := ZD;have E : d < (l0.length : Int) := ZD;obtain ⟨Z,ah,ai,aj,aa,y,g,i⟩ := at_T30 az.out d D E;cases aj;have ab := ZA i;have ac := ZA g;clear i g;replace D := eq_true D;replace E := eq_true E;have G : 0 <= (d : Int) := ZD;have I : d < (l1.length : Int) := ZD;obtain ⟨ad,ak,al,am,ae,z,j,m⟩ := at_T30 aA.out d G I;cases am;have af := ZA m;have ag := ZA j;clear m j;replace G := eq_true G;replace I := eq_true I;have U : 0 <= (d : Int) := ZD;have V : d < (l0.length : Int) := ZD;obtain ⟨an,ar,au,av,ap,J,s,t⟩ := at_T30 az.out d U V;obtain rfl : Z = an := (by injection av);have n := ZA t;have o := ZA s;clear t s;replace U := eq_true U;replace V := eq_true V;have ea_ := Option.some.inj (y.symm.trans J);injection ea_ with ea_ en_ ec_
   subst ea_;subst ec_;clear en_;have X : 0 <= (d : Int) := ZD;have Y : d < (l1.length : Int) := ZD;obtain ⟨ao,aw,ax,ay,aq,M,u,v⟩ := at_T30 aA.out d X Y;obtain rfl : ad = ao := (by injection ay);have p := ZA v;have q := ZA u;clear v u;replace X := eq_true X;replace Y := eq_true Y;have ea_ := Option.some.inj (z.symm.trans M);injection ea_ with ea_ en_ ec_
   subst ea_;subst ec_;clear en_
   go_wp2_with (first|(go_at_call 10;(with_reducible refine (FJ.calls k1 _ _ ((rd_T30 l0 d).f1) _ _ ((rd_T30 l1 d).f1) true _ (ZR n.out) o.out (ZR p.out) q.out A9.out).mono ?_);rintro e w' ⟨rfl,⟨nd,rfl⟩⟩;(try first|exact ⟨rfl,_,World.drewN_drewN _ _ _⟩|exact ⟨rfl,_,YW _ _ _ _⟩)))
   repeat (go_quiet (first|(go_at_call 10;(with_reducible refine (FJ.calls k1 _ _ ((rd_T30 l0 d).f1) _ _ ((rd_T30 l1 d).f1) true _ (ZR n.out) o.out (ZR p.out) q.out A9.out).mono ?_);rintro e w' ⟨rfl,⟨nd,rfl⟩⟩;(try first|exact ⟨rfl,_,World.drewN_drewN _ _ _⟩|exact ⟨rfl,_,YW _ _ _ _⟩)));try go_wp2_with (first|(go_at_call 10;(with_reducible refine (FJ.calls k1 _ _ ((rd_T30 l0 d).f1) _ _ ((rd_T30 l1 d).f1) true _ (ZR n.out) o.out (ZR p.out) q.out A9.out).mono ?_);rintro e w' ⟨rfl,⟨nd,rfl⟩⟩;(try first|exact ⟨rfl,_,World.drewN_drewN _ _ _⟩|exact ⟨rfl,_,YW _ _ _ _⟩))))
   go_roundg k1
   case measure => have := aL.out;omega
   case rel => exact ⟨(wrap64 (d + 1)),ZG,H',⟨by have := aL.out;omega⟩,by repeat (first|exact Drawn0.refl _|apply Drawn0.step)⟩
end Go.Proofs.YtgnijnlgbelifaaGreat.Q
