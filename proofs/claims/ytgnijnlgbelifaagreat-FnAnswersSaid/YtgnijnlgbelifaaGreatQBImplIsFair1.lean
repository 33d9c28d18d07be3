import Derived.Test.YtgnijnlgbelifaaGreatQBImplIsTaught
namespace Go.Proofs.YtgnijnlgbelifaaGreat.Q
open RowKit W.PrintWords W.PrintLast W.PrintMore W.GCall
attribute [local go_sem] Ebi Ebj Ebx Eby Ebb Ebc Ebk Ebl
set_option linter.unusedVariables false
set_option linter.unusedSimpArgs false
def Lj.f (k : Nat) (l0 : List Int) (l1 : List (List Int)) : Option Bool := GG.f (fun x => GT.f k l1 x) l0
set_option maxHeartbeats 1000000
open RowKit Lib W.PrintWords W.PrintLast W.PrintMore W Q W.GCall
set_option maxHeartbeats 1000000 in
set_option maxRecDepth 100000 in
theorem Lj.calls (k : Nat) (A0 : Option Addr) (c0 : Nat) (l0 : List Int) (A1 : Option Addr) (c1 : Nat) (l1 : List (List Int)) (r : Bool) {gb : Nat} (w : World) (d : Kd.C (Kd.int .i64) w A0 l0.length l0) (aa : l0.length <= c0) (g : Kd.C (Kd.slice 3 (Kd.int .i64)) w A1 l1.length l1) (i : l1.length <= c1) (hbx : w.cell? ⟨gb,0,none⟩ = some (.slice A1 l1.length c1)) (h : Lj.f k l0 l1 = some r) :
  Calls Tryz.prog 123 #[.slice A0 l0.length c0,.func (.func 124) #[] #[.pointer (some ⟨gb,0,none⟩)]] w fun e w' => e = .returned (.bool r) ∧ Below w.heap.size w w' := by
 have eg : ∀ args w,(callFunc 124 args).run Tryz.prog w = .ok (.enter 124 args) w := enters_of Tryz.func124 (by kernel_rfl) rfl;refine GG.calls (fun x => GT.f k l1 x) 124 #[.pointer (some ⟨gb,0,none⟩)] eg A0 c0 l0 r w d ?_ h;intro W x b hb hx hp;have hlt : gb < w.heap.size := World.block_lt_of_cell? w _ hbx;have hc : W.cell? ⟨gb,0,none⟩ = some (.slice A1 l1.length c1) := (hb.cell (p := ⟨gb,0,none⟩) hlt).trans hbx;have hcon := GT.calls k A1 c1 l1 x b W (Kd.Eab g hb) i hp;have HC := ZA hcon;clear hcon hb hbx hp d g h;show Calls Tryz.prog 124 #[.int .i64 x,.pointer (some ⟨gb,0,none⟩)] W _;go_enter Tryz.func124,Tryz.ntmps124
 go_wp2_with (go_at_call 71;refine (HC.out).mono ?_;rintro e w' ⟨rfl,hb'⟩)
 go_ret;exact ⟨rfl,hb'⟩
def Ll.f (k : Nat) (l0 : List (List Int)) (aa : Int) (d : List Int) : Option (Bool) := (Lj.f k d l0).bind fun g => (some g)
set_option maxHeartbeats 3000000 in
set_option maxRecDepth 100000 in
theorem Ll.calls (k : Nat) (A0 : Option Addr) (c0 : Nat) (l0 : List (List Int)) (v : Int) (p : Option Addr) (q : Nat) (d : List Int) (r : Bool) (w : World) (I : Kd.C (Kd.slice 3 (Kd.int .i64)) w A0 l0.length l0) (J : l0.length <= c0) (y : Kd.C (Kd.int .i64) w p d.length d) (z : d.length <= q) (h : Ll.f k l0 v d = some r) :
  Calls Tryz.prog 69 #[.slice A0 l0.length c0,.agg #[.int .i64 v,.slice p d.length q]] w fun e w' => e = .returned (.bool r) ∧ Below w.heap.size w w' := by
 have ai := Tryz.underlying30;have M := ZA I;have U := ZA J;clear I J;have E := ZA y;have G := ZA z;clear y z;have HB := ZA (Below.refl w.heap.size w);have H : ((Lj.f k d l0).bind fun D => (some D)) = some r := h;clear h;replace H := YJ H;obtain ⟨D,A3,H⟩ := H;obtain rfl := Option.some.inj H;go_enter Tryz.func69,Tryz.ntmps69
 go_wp2_with (first|((with_reducible refine Ead (N := 2) rfl ?_);refine ZE 2 #[.slice A0 l0.length c0] 25 ?_;intro i hg w4 hbox hb;have j := ZA (hbox);have ae := YQ hg HB;have af := YQ hg HB;replace HB := BS HB hb;clear hb hbox hg)|((with_reducible refine Ead (N := 3) rfl ?_);refine ZE 3 #[.int .i64 v,.slice p d.length q] 30 ?_;intro m hg w5 hbox hb;have n := ZA (hbox);have ag := ZA ((by rw [hg];exact (Eao (ZQ HB)) : w.heap.size <= m));have ah := ZA ((by rw [hg];exact (Eao (ZQ HB)) : w.heap.size <= m));replace HB := ZA (Eai (ZQ HB) hb);have s := ZA ((by rw [hg];exact Nat.ne_of_lt (Ebp (g := i) (o := .cells #[.slice A0 l0.length c0] 25 (0,0)) (by exact ZH j)) : i ≠ m));have u := ZA ((by rw [hg];exact Nat.ne_of_gt (Ebp (g := i) (o := .cells #[.slice A0 l0.length c0] 25 (0,0)) (by exact ZH j)) : m ≠ i));replace j := ZA (Eac (g := i) (o := .cells #[.slice A0 l0.length c0] 25 (0,0)) (by exact ZH j) hb);clear hb hbox hg;have aj := u.out;have ak := s.out;have aa : w5.cell? ⟨m,0,none⟩ = some (.int .i64 v) := ZC n 0 rfl;have ab : w5.cell? ⟨m,1,none⟩ = some (.slice p d.length q) := ZC n 1 rfl;have ac := Ea n.out 0;have ad := Ea n.out 1)|((with_reducible refine Eaz (f := 123) rfl ?_);refine Ed (some 8) rfl rfl Tryz.func123 (by kernel_rfl) rfl #[.slice p d.length q,.func (.func 124) #[] #[.pointer (some ⟨i,0,none⟩)]] rfl (by (try simp only [List.map_toArray,List.map_cons,List.map_nil]);first|done|rfl|(simp only [List.length_drop,List.length_take];rfl)) ?_;(with_reducible refine (Lj.calls k _ _ d A0 c0 l0 D _ (ZR (Kd.Eab E.out HB.out)) G.out (ZR (Kd.Eab M.out HB.out)) U.out ((Ebo (cs := #[.slice A0 l0.length c0]) (t := 25) (by exact ZH j) 0).trans rfl) A3.out).mono ?_);rintro e w8 ⟨rfl,hb⟩;refine ⟨_,rfl,?_⟩;replace j := ZA (Eac (g := i) (o := .cells #[.slice A0 l0.length c0] 25 (0,0)) (by exact ZH j) hb);replace n := ZA (Eac (g := m) (o := .cells #[.int .i64 v,.slice p d.length q] 30 (0,0)) (by exact ZH n) hb);replace HB := ZA (Eai (ZQ HB) hb)))
 go_ret;exact ⟨YR,ZQ HB⟩
end Go.Proofs.YtgnijnlgbelifaaGreat.Q
