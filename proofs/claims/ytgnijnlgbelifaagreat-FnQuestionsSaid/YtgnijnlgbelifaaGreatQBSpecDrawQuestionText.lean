import Derived.Test.YtgnijnlgbelifaaGreatQBSpecExTaught
import Derived.Test.YtgnijnlgbelifaaGreatGUp
import Derived.Test.YtgnijnlgbelifaaGreatQSpecL1CurQuestion
namespace Go.Proofs.YtgnijnlgbelifaaGreat.Q
open Go.RowKit Go.Proofs.YtgnijnlgbelifaaGreatW.PrintWords Go.Proofs.YtgnijnlgbelifaaGreatW.PrintLast Go.Proofs.YtgnijnlgbelifaaGreatW.PrintMore Go.Proofs.YtgnijnlgbelifaaGreatW.GCall
attribute [local go_sem] Ebu Ebv Ecl Ecm Ebk Ebl Ebw Ebx
set_option linter.unusedVariables false
set_option maxHeartbeats 3000000
set_option maxRecDepth 100000
set_option linter.unusedSimpArgs false
def GA.f (k : Nat) (l0 : List Int) : Option ((List (S41)) × Int × List Int) := (Fd.f k l0 0 0).bind fun d => ((Fe.f k l0 d.2.1 d.2.2 (d.1.length : Int)).bind fun g => (some (d.1,g.1,g.2.1)))
theorem GA.calls (k : Nat) (A0 : Option Addr) (c0 : Nat) (l0 : List Int) (r1 : List (S41)) (r2 : Int) (r3 : List Int) (w : World) (Y : Kd.C (Kd.int .u8) w A0 l0.length l0) (Z : l0.length <= c0) (h : GA.f k l0 = some (r1,r2,r3)) :
  Calls Tryz.prog 22 #[.slice A0 l0.length c0] w fun e w' => ∃ ae J : Value,e = .returned (.tuple #[ae,.agg #[.int .i64 r2,J]]) ∧ Kd.N k41 41 w' w.heap.size (fun k_ => (w.heap.size <= k_) ∧ some k_ ≠ (J : Value).ownBlock) ae r1 ∧ Kd.R (Kd.int .i64) 3 w' w.heap.size (fun k_ => (w.heap.size <= k_)) J r3 ∧ Below w.heap.size w w' := by
 have ah := Tryz.underlying30;have ai := Tryz.underlying82;have aj := ZA Y;have ap := ZA Z;clear Y Z;have HB := ZA (Below.refl w.heap.size w);have H := h;clear h;unfold GA.f at H;replace H := YJ H;obtain ⟨⟨y,E,G⟩,A2,H⟩ := H;try dsimp only at H
 replace H := YJ H;obtain ⟨⟨t,u,U,V⟩,A3,H⟩ := H;try dsimp only at H
 simp only [Option.some.injEq,Prod.mk.injEq] at H;obtain ⟨rfl,rfl,rfl⟩ := H;go_enter Tryz.func22,Tryz.ntmps22
 go_wp2_with (first|((with_reducible refine Eaf (N := 3) rfl ?_);refine ZE 3 #[.int .i64 0,.slice none 0 0] 30 ?_;intro d hg w4 hbox hb;have i := ZA (hbox);have af := YQ hg HB;have ag := YQ hg HB;replace HB := BS HB hb;clear hb hbox hg)|((with_reducible refine Eaf (N := 8) rfl ?_);refine ZE 8 #[.slice A0 l0.length c0,.int .i64 0,.int .u64 0] 82 ?_;intro j hg w5 hbox hb;have n := ZA ((⟨_,_,hbox,(by rw [hg];exact (SZ HB)),aj.out⟩ : IsS82 w w5 j l0 0 0));replace HB := BS HB hb;have m := ZA ((by rw [hg];exact Nat.ne_of_lt (Eau (g := d) (o := .cells #[.int .i64 0,.slice none 0 0] 30 (0,0)) (ZH i)) : d ≠ j));have s := ZA ((by rw [hg];exact Nat.ne_of_gt (Eau (g := d) (o := .cells #[.int .i64 0,.slice none 0 0] 30 (0,0)) (ZH i)) : j ≠ d));replace i := ZA (Eaa (ZH i) hb);clear hb hbox hg)|((with_reducible refine YG 76 ?_);refine YC (some 10) Tryz.func76 #[.pointer (some ⟨j,0,none⟩)] (Fd.calls k j l0 0 0 y E G w _ (ZS n) (ZJ HB) A2.out) ?_;rintro e w6 ⟨ak,rfl,I,hi,hb,hk⟩;refine ⟨_,rfl,?_⟩;have q := ZA (Kd.Ece (Kd.Ead (ok' := fun k_ => (w.heap.size <= k_) ∧ k_ ≠ d ∧ k_ ≠ j) I (fun k_ hk_ => ⟨(Nat.le_trans (Ear (ZJ HB)) hk_),(Kd.Ebr (ZH i) k_ hk_),(IsS82.fresh (ZS n) k_ hk_)⟩)) (Ear (ZJ HB)));replace i := ZA (Eab.blk hk (g' := d) (o := .cells #[.int .i64 0,.slice none 0 0] 30 (0,0)) (ZH i) m.out (by simp));replace HB := ZA (hb);replace n := ZA (hi);obtain ⟨aq,ar,al⟩ := Kd.Ecd q.out;subst al)|((with_reducible refine YG 77 ?_);refine YC (some 15) Tryz.func77 #[.pointer (some ⟨j,0,none⟩),.int .i64 (y.length : Int)] (Fe.calls k j l0 E G (y.length : Int) t u U V w _ (ZS n) (ZJ HB) A3.out) ?_;rintro e w8 ⟨am,rfl,I,hi,hb,hk⟩;refine ⟨_,rfl,?_⟩;replace i := ZA (Eab.blk hk (g' := d) (o := .cells #[.int .i64 0,.slice none 0 0] 30 (0,0)) (ZH i) m.out (by simp));replace q := ZA (Kd.Ead (Kd.Ebf (Kd.Ejb (Kd.Ead (ok := fun k_ => (((w.heap.size <= k_)) ∧ (k_ ≠ d ∧ k_ ≠ j))) (ZKN q) (fun k_ hk_ => (⟨hk_,hk_.2.2⟩ : _ ∧ k_ ≠ j))) hk) (Kd.Eal I)) (fun _ h_ => h_.1));have v := ZA (Kd.Eaz (Kd.Eea (M := fun k_ => (w.heap.size <= k_)) I (Ear (ZJ HB)) (fun k_ h_ => h_)) (Ear (ZJ HB)));replace HB := ZA (hb);replace n := ZA (hi);have an := m.out;have ao := s.out;have aa : w8.cell? ⟨d,0,none⟩ = some (.int .i64 0) := ZC i 0 rfl;have ab : w8.cell? ⟨d,1,none⟩ = some (.slice none 0 0) := ZC i 1 rfl;have ac := Ea i.out 0;have ad := Ea i.out 1;obtain ⟨z,D,X⟩ := Kd.Eai v.out;subst X))
 refine bodyPost_ret (Eji rfl _ _ d 30 #[.int .i64 t,.slice z u.length D] (0,0) _ rfl (by refine ZY ?_;refine Eae (cs := #[.int .i64 t,.slice none 0 0]) ?_ 1 _ rfl;refine ZY ?_;refine Eae (cs := #[.int .i64 0,.slice none 0 0]) ?_ 0 _ rfl;refine ZY ?_;exact i.out) Tryz.underlying30 rfl (by kernel_rfl)) rfl ?_;exact ⟨_,_,YR,ZKN ⟨Kd.Ead (Kd.Eaq (p := ⟨d,1,none⟩) (Kd.Eaq (p := ⟨d,0,none⟩) (Kd.Ead q.out (fun k_ hk => (⟨hk,hk.1.2.1⟩ : _ ∧ k_ ≠ d))) (fun _ hk => hk.2) (.int .i64 t)) (fun _ hk => hk.2) (.slice z u.length D)) (fun _ hk => ⟨hk.1.1.1,hk.1.2⟩)⟩,ZK ⟨Kd.Eaj (Kd.Ebd (p := ⟨d,1,none⟩) (Kd.Ebd (p := ⟨d,0,none⟩) (Kd.Eay v.out i.out (by decide)) (fun _ hk => hk.2) (.int .i64 t)) (fun _ hk => hk.2) (.slice z u.length D)) (fun _ hk => hk.1.1)⟩,ZJ HB⟩
def FH.l0 : Nat -> List Int -> Int -> Int -> Int -> List Int -> Option (Bool)
 | 0,_,_,_,_,_ => none
 | k + 1,x6,x7,x8,g,d => if x8 < x7 then (if 0 <= x8 then (if x8 < (x6.length : Int) then ((FM.f (rd x6 x8) 0 15).bind fun i => (if i = true then (if x8 <= (d.length : Int) then ((Fp.f k (d.take (x8 : Int).toNat) (rd x6 x8)).bind fun j => (if j = true then (some false) else (FH.l0 k x6 x7 (wrap64 (x8 + 1)) g d))) else (none)) else (some false))) else (none)) else (none)) else ((FM.f (d.length : Int) 2 4).bind fun m => (if m = true then ((Fp.f k d g).bind fun n => (some n)) else (some false)))
def FH.f (k : Nat) (g : Int) (d : List Int) : Option (Bool) := FH.l0 k d (d.length : Int) 0 g d
theorem FH.calls (k : Nat) (n : Int) (u : Option Addr) (o : Nat) (d : List Int) (r : Bool) (w : World) (E : Kd.C (Kd.int .i64) w u d.length d) (G : d.length <= o) (h : FH.f k n d = some r) :
  Calls Tryz.prog 79 #[.agg #[.int .i64 n,.slice u d.length o]] w fun e w' => e = .returned (.bool r) ∧ Below w.heap.size w w' := by
 have aK := Tryz.underlying30;have s := ZA E;have v := ZA G;clear E G;have HB := ZA (Below.refl w.heap.size w);have H : (FH.l0 k d (d.length : Int) 0 n d) = some r := h;clear h;have H' := ZA H;clear H;go_enter Tryz.func79,Tryz.ntmps79
 go_wp2_with (first|((with_reducible refine Eaf (N := 1) rfl ?_);refine ZE 1 #[.int .i64 n,.slice u d.length o] 30 ?_;intro m hg w2 hbox hb;have g := ZA (hbox);have aD := YQ hg HB;have aE := YQ hg HB;replace HB := BS HB hb;clear hb hbox hg;have au : w2.cell? ⟨m,0,none⟩ = some (.int .i64 n) := ZC g 0 rfl;have av : w2.cell? ⟨m,1,none⟩ = some (.slice u d.length o) := ZC g 1 rfl;have aw := Ea g.out 0;have ax := Ea g.out 1))
 go_loopg [8] k (fun kq v8 w' => ∃ (i : Int),v8 = .int .i64 i ∧ Aside0 (FH.l0 kq d (d.length : Int) i n d = some r) ∧ Aside0 (kq <= k) ∧ Aside0 (w'.heap[m]? = some (.cells #[.int .i64 n,(.slice u d.length o)] 30 (0,0))) ∧ Aside0 (Below w.heap.size w w'))
 case atStart => exact ⟨(0),ZG,H',⟨Nat.le_refl _⟩,⟨ZH g⟩,⟨ZQ HB⟩⟩
 case round =>
  clear H';obtain ⟨i,rfl,HA,aF,g,HB⟩ := hrel;cases gk with
  | zero => exact absurd HA.out (by simp [FH.l0])
  | succ k1 =>
   have H := HA.out;clear HA;simp only [FH.l0] at H;replace H := YI H;rcases H with ⟨ay,H⟩|⟨ay,H⟩;rotate_left
   ·replace H := ZI H;obtain ⟨aL,V,H⟩ := H;have aG := ZA V;clear V;replace H := YF H;rcases H with ⟨rfl,H⟩|⟨rfl,H⟩;rotate_left
    ·obtain rfl := Option.some.inj H;have ab : wr.cell? ⟨m,0,none⟩ = some (.int .i64 n) := ZC g 0 rfl;have ac : wr.cell? ⟨m,1,none⟩ = some (.slice u d.length o) := ZC g 1 rfl;have ad := Ea g.out 0;have ae := Ea g.out 1
     go_wp2_with (first|((with_reducible refine YG 65 ?_);refine YC (some 28) Tryz.func65 #[.int .i64 (d.length : Int),.int .i64 2,.int .i64 4] (FM.calls (d.length : Int) 2 4 false _ aG.out) ?_;rintro e w' ⟨rfl,⟨nd,rfl⟩⟩;refine ⟨_,rfl,?_⟩))
     go_ret;exact ⟨YR,ZQ HB⟩
    replace H := YJ H;obtain ⟨az,aM,H⟩ := H;obtain rfl := Option.some.inj H;have af : wr.cell? ⟨m,0,none⟩ = some (.int .i64 n) := ZC g 0 rfl;have ag : wr.cell? ⟨m,1,none⟩ = some (.slice u d.length o) := ZC g 1 rfl;have ah := Ea g.out 0;have ai := Ea g.out 1
    go_wp2_with (first|((with_reducible refine YG 65 ?_);refine YC (some 28) Tryz.func65 #[.int .i64 (d.length : Int),.int .i64 2,.int .i64 4] (FM.calls (d.length : Int) 2 4 true _ aG.out) ?_;rintro e w' ⟨rfl,⟨nd,rfl⟩⟩;refine ⟨_,rfl,?_⟩)|(go_at_call 72;(with_reducible refine (Fp.calls k1 _ _ d n az _ (ZR (Kd.Eac s.out (ZQ HB))) v.out aM.out).mono ?_);rintro e w' ⟨rfl,⟨nd,rfl⟩⟩))
    go_ret;exact ⟨YR,ZQ HB⟩
   replace H := YN H;obtain ⟨aN,H⟩ := H;replace H := YN H;obtain ⟨aO,H⟩ := H;replace H := YJ H;obtain ⟨aP,A7,H⟩ := H;replace H := YF H;rcases H with ⟨rfl,H⟩|⟨rfl,H⟩;rotate_left
   ·obtain rfl := Option.some.inj H;have p : 0 <= (i : Int) := ZD;have q : i < (d.length : Int) := ZD;obtain ⟨t,y,j⟩ := Kd.Eav s.out i p q;cases y;replace j := ZX HB j;replace p := eq_true p;replace q := eq_true q
    go_wp2_with (first|((with_reducible refine YG 65 ?_);refine YC (some 14) Tryz.func65 #[.int .i64 (rd d i),.int .i64 0,.int .i64 15] (FM.calls (rd d i) 0 15 false _ A7.out) ?_;rintro e w' ⟨rfl,⟨nd,rfl⟩⟩;refine ⟨_,rfl,?_⟩))
    go_ret;exact ⟨YR,ZQ HB⟩
   have aQ := eq_true (ZD : 0 <= i);replace H := YM H;obtain ⟨c10,H⟩ := H;have aH := eq_true c10;have aI := decide_eq_true c10;clear c10;replace H := YJ H;obtain ⟨aA,aJ,H⟩ := H;by_cases aj : aA = true
   ·subst aj;rw [if_pos rfl] at H;obtain rfl := Option.some.inj H;have p : 0 <= (i : Int) := ZD;have q : i < (d.length : Int) := ZD;obtain ⟨t,y,j⟩ := Kd.Eav s.out i p q;cases y;replace j := ZX HB j;replace p := eq_true p;replace q := eq_true q
    go_wp2_with (first|((with_reducible refine YG 65 ?_);refine YC (some 14) Tryz.func65 #[.int .i64 (rd d i),.int .i64 0,.int .i64 15] (FM.calls (rd d i) 0 15 true _ A7.out) ?_;rintro e w' ⟨rfl,⟨nd,rfl⟩⟩;refine ⟨_,rfl,?_⟩;have ak : wr.cell? ⟨m,0,none⟩ = some (.int .i64 n) := ZC g 0 rfl;have al : wr.cell? ⟨m,1,none⟩ = some (.slice (some t) d.length o) := ZC g 1 rfl;have am := Ea g.out 0;have an := Ea g.out 1;obtain ⟨aR,I,_,J,_⟩ := info_parts info3;obtain ⟨aB,X,Y⟩ := Efc (P := Tryz.prog) (Value.int .i64) 0 28 3 .i64 Tryz.underlying28 I J (some t) o d i ZD ZD v.out;have z := ZA (Kd.Egx (h1 := fun _ => rfl) (X _ (Kd.Eer s.out)));have D := ZA Y;clear X Y I J)|(go_at_call 72;(rw [show (i).toNat = (d.take (i : Int).toNat).length by (rw [List.length_take,Nat.min_eq_left];have h_ : (i <= (d.length : Int)) = True := (by assumption);have := of_eq_true h_;omega)]);(with_reducible refine (Fp.calls k1 _ _ (d.take (i : Int).toNat) (rd d i) true _ ?side1 D.out aJ.out).mono ?_);(case side1 => exact ZR (Kd.Eac z.out (ZQ HB)));rintro e w' ⟨rfl,⟨nd,rfl⟩⟩))
    go_ret;exact ⟨YR,ZQ HB⟩
   replace aj := Bool.eq_false_iff.mpr aj;subst aj;rw [if_neg (show ¬ (false = true) by decide)] at H;have H' := ZA H;clear H;have p : 0 <= (i : Int) := ZD;have q : i < (d.length : Int) := ZD;obtain ⟨t,y,j⟩ := Kd.Eav s.out i p q;cases y;replace j := ZX HB j;replace p := eq_true p;replace q := eq_true q
   go_wp2_with (first|((with_reducible refine YG 65 ?_);refine YC (some 14) Tryz.func65 #[.int .i64 (rd d i),.int .i64 0,.int .i64 15] (FM.calls (rd d i) 0 15 true _ A7.out) ?_;rintro e w' ⟨rfl,⟨nd,rfl⟩⟩;refine ⟨_,rfl,?_⟩;have ao : wr.cell? ⟨m,0,none⟩ = some (.int .i64 n) := ZC g 0 rfl;have ap : wr.cell? ⟨m,1,none⟩ = some (.slice (some t) d.length o) := ZC g 1 rfl;have aq := Ea g.out 0;have ar := Ea g.out 1;obtain ⟨aS,M,_,U,_⟩ := info_parts info3;obtain ⟨aC,Z,aa⟩ := Efc (P := Tryz.prog) (Value.int .i64) 0 28 3 .i64 Tryz.underlying28 M U (some t) o d i ZD ZD v.out;have z := ZA (Kd.Egx (h1 := fun _ => rfl) (Z _ (Kd.Eer s.out)));have D := ZA aa;clear Z aa M U)|(go_at_call 72;(rw [show (i).toNat = (d.take (i : Int).toNat).length by (rw [List.length_take,Nat.min_eq_left];have h_ : (i <= (d.length : Int)) = True := (by assumption);have := of_eq_true h_;omega)]);(with_reducible refine (Fp.calls k1 _ _ (d.take (i : Int).toNat) (rd d i) false _ ?side1 D.out aJ.out).mono ?_);(case side1 => exact ZR (Kd.Eac z.out (ZQ HB)));rintro e w' ⟨rfl,⟨nd,rfl⟩⟩))
   go_roundg k1
   case measure => have := aF.out;omega
   case rel => exact ⟨(wrap64 (i + 1)),ZG,H',⟨by have := aF.out;omega⟩,⟨ZH g⟩,⟨ZQ HB⟩⟩
def GG.l0 : Nat -> Int -> Int -> List Int -> Int -> Int -> Option (Bool)
 | 0,_,_,_,_,_ => none
 | k + 1,x1,x2,x9,i,d => if d < i then (if 0 <= d then (if d < (x9.length : Int) then ((FM.f (rd x9 d) x1 x2).bind fun g => (if g = true then (GG.l0 k x1 x2 x9 i (wrap64 (d + 1))) else (some false))) else (none)) else (none)) else (some true)
def GG.f (k : Nat) (l0 : List Int) (a1 : Int) (a2 : Int) : Option (Bool) := GG.l0 k a1 a2 l0 (l0.length : Int) 0
theorem GG.calls (k : Nat) (A0 : Option Addr) (c0 : Nat) (l0 : List Int) (a1 : Int) (a2 : Int) (r : Bool) (w : World) (p : Kd.C (Kd.int .i64) w A0 l0.length l0) (q : l0.length <= c0) (h : GG.f k l0 a1 a2 = some r) :
  Calls Tryz.prog 80 #[.slice A0 l0.length c0,.int .i64 a1,.int .i64 a2] w fun e w' => e = .returned (.bool r) ∧ Drawn0 w w' := by
 have s := ZA p;have ad := ZA q;clear p q;have H : (GG.l0 k a1 a2 l0 (l0.length : Int) 0) = some r := h;clear h;have H' := ZA H;clear H;go_enter Tryz.func80,Tryz.ntmps80;go_wp2
 go_loopg [11] k (fun kq u w' => ∃ (d : Int),u = .int .i64 d ∧ Aside0 (GG.l0 kq a1 a2 l0 (l0.length : Int) d = some r) ∧ Aside0 (kq <= k) ∧ Drawn0 w w')
 case atStart => exact ⟨(0),ZG,H',⟨Nat.le_refl _⟩,by repeat (first|exact Drawn0.refl _|apply Drawn0.step)⟩
 case round =>
  clear H';obtain ⟨d,rfl,HA,t,⟨m1,rfl⟩⟩ := hrel;cases gk with
  | zero => exact absurd HA.out (by simp [GG.l0])
  | succ k1 =>
   have H := HA.out;clear HA;simp only [GG.l0] at H;replace H := YI H;rcases H with ⟨o,H⟩|⟨o,H⟩;rotate_left
   ·obtain rfl := Option.some.inj H;go_wp2;go_ret;exact ⟨by first|rfl|(simp;done)|(simp [*];done),by repeat (first|exact Drawn0.refl _|apply Drawn0.step)⟩
   replace H := YN H;obtain ⟨aa,H⟩ := H;replace H := YN H;obtain ⟨ab,H⟩ := H;replace H := YJ H;obtain ⟨ac,A7,H⟩ := H;replace H := YF H;rcases H with ⟨rfl,H⟩|⟨rfl,H⟩;rotate_left
   ·obtain rfl := Option.some.inj H;have g : 0 <= (d : Int) := ZD;have i : d < (l0.length : Int) := ZD;obtain ⟨n,m,j⟩ := Kd.Eav s.out d g i;cases m;replace g := eq_true g;replace i := eq_true i
    go_wp2_with (first|((with_reducible refine YG 65 ?_);refine YC (some 18) Tryz.func65 #[.int .i64 (rd l0 d),.int .i64 a1,.int .i64 a2] (FM.calls (rd l0 d) a1 a2 false _ A7.out) ?_;rintro e w' ⟨rfl,⟨nd,rfl⟩⟩;refine ⟨_,rfl,?_⟩))
    go_ret;exact ⟨by first|rfl|(simp;done)|(simp [*];done),by repeat (first|exact Drawn0.refl _|apply Drawn0.step)⟩
   have H' := ZA H;clear H;have g : 0 <= (d : Int) := ZD;have i : d < (l0.length : Int) := ZD;obtain ⟨n,m,j⟩ := Kd.Eav s.out d g i;cases m;replace g := eq_true g;replace i := eq_true i
   go_wp2_with (first|((with_reducible refine YG 65 ?_);refine YC (some 18) Tryz.func65 #[.int .i64 (rd l0 d),.int .i64 a1,.int .i64 a2] (FM.calls (rd l0 d) a1 a2 true _ A7.out) ?_;rintro e w' ⟨rfl,⟨nd,rfl⟩⟩;refine ⟨_,rfl,?_⟩))
   go_roundg k1
   case measure => have := t.out;omega
   case rel => exact ⟨(wrap64 (d + 1)),ZG,H',⟨by have := t.out;omega⟩,by repeat (first|exact Drawn0.refl _|apply Drawn0.step)⟩
mutual
def Fn.j0 : Nat -> List (S41) -> Bool -> Int -> List Int -> Option (ByteArray × Bool)
 | 0,_,_,_,_ => none
 | k + 1,x0,g,f,d => if g = true then (some ((⟨#[]⟩ : ByteArray),false)) else (Fn.l0 k x0 (⟨#[]⟩ : ByteArray) d (d.length : Int) 0 f d)
def Fn.l0 : Nat -> List (S41) -> ByteArray -> List Int -> Int -> Int -> Int -> List Int -> Option (ByteArray × Bool)
 | 0,_,_,_,_,_,_,_ => none
 | k + 1,x0,x6,i,j,f,d,g => if f < j then (if 0 <= f then (if f < (i.length : Int) then (if f > 0 then (if x6.size + 1 <= 9223372036854775807 then (if (rd i f) = d then (if (x6 ++ (⟨#[32]⟩ : ByteArray)).size + 1 <= 9223372036854775807 then (if 0 <= (rd i f) then (if (rd i f) < (x0.length : Int) then (if ((x6 ++ (⟨#[32]⟩ : ByteArray)) ++ (⟨#[61]⟩ : ByteArray)).size + ((rd_T41 x0 (rd i f)).f0).size <= 9223372036854775807 then (Fn.l0 k x0 (((x6 ++ (⟨#[32]⟩ : ByteArray)) ++ (⟨#[61]⟩ : ByteArray)) ++ ((rd_T41 x0 (rd i f)).f0)) i j (wrap64 (f + 1)) d g) else (none)) else (none)) else (none)) else (none)) else (if 0 <= (rd i f) then (if (rd i f) < (x0.length : Int) then (if (x6 ++ (⟨#[32]⟩ : ByteArray)).size + ((rd_T41 x0 (rd i f)).f0).size <= 9223372036854775807 then (Fn.l0 k x0 ((x6 ++ (⟨#[32]⟩ : ByteArray)) ++ ((rd_T41 x0 (rd i f)).f0)) i j (wrap64 (f + 1)) d g) else (none)) else (none)) else (none))) else (none)) else (if (rd i f) = d then (if x6.size + 1 <= 9223372036854775807 then (if 0 <= (rd i f) then (if (rd i f) < (x0.length : Int) then (if (x6 ++ (⟨#[61]⟩ : ByteArray)).size + ((rd_T41 x0 (rd i f)).f0).size <= 9223372036854775807 then (Fn.l0 k x0 ((x6 ++ (⟨#[61]⟩ : ByteArray)) ++ ((rd_T41 x0 (rd i f)).f0)) i j (wrap64 (f + 1)) d g) else (none)) else (none)) else (none)) else (none)) else (if 0 <= (rd i f) then (if (rd i f) < (x0.length : Int) then (if x6.size + ((rd_T41 x0 (rd i f)).f0).size <= 9223372036854775807 then (Fn.l0 k x0 (x6 ++ ((rd_T41 x0 (rd i f)).f0)) i j (wrap64 (f + 1)) d g) else (none)) else (none)) else (none)))) else (none)) else (none)) else (some (x6,true))
end
def Fn.f (k : Nat) (l0 : List (S41)) (g : Int) (d : List Int) : Option (ByteArray × Bool) := (Fo.f k l0).bind fun i => (if i = true then ((FH.f k g d).bind fun j => (if j = true then ((GG.f k d 0 (wrap64 ((l0.length : Int) - 1))).bind fun m => (Fn.j0 k l0 (!m) g d)) else (Fn.j0 k l0 true g d))) else (Fn.j0 k l0 true g d))
theorem Fn.calls (k : Nat) (A0 : Option Addr) (c0 : Nat) (l0 : List (S41)) (p : Int) (G : Option Addr) (t : Nat) (g : List Int) (r1 : ByteArray) (r2 : Bool) (w : World) (cm : Kd.C k41 w A0 l0.length l0) (cn : l0.length <= c0) (aq : Kd.C (Kd.int .i64) w G g.length g) (ar : g.length <= t) (h : Fn.f k l0 p g = some (r1,r2)) :
  Calls Tryz.prog 23 #[.slice A0 l0.length c0,.agg #[.int .i64 p,.slice G g.length t]] w fun e w' => e = .returned (.tuple #[.string r1,.bool r2]) ∧ Below w.heap.size w w' := by
 have c1 := Tryz.underlying30;have aw := ZA cm;have bu := ZA cn;clear cm cn;have D := ZA aq;have ap := ZA ar;clear aq ar;have HB := ZA (Below.refl w.heap.size w);have H := h;clear h;unfold Fn.f at H;have bv := ZA H;clear H;go_enter Tryz.func23,Tryz.ntmps23
 go_upto_region 1 with (first|((with_reducible refine Eaf (N := 3) rfl ?_);(try (refine Ean (by rfl) ?_;dsimp only));refine ZE 3 #[.int .i64 p,.slice G g.length t] 30 ?_;intro o hg w4 hbox hb;have i := ZA (hbox);have co := YQ hg HB;have cp := YQ hg HB;replace HB := BS HB hb;clear hb hbox hg))
 (try simp only [Act.put,zuA,zuB,zuC])
 go_cut [25] (fun c2 wc => ∃ (kq : Nat) (M : Bool),c2 = .bool M ∧ Aside0 (Fn.j0 kq l0 M p g = some (r1,r2)) ∧ Aside0 (kq <= k) ∧ Aside0 (wc.heap[o]? = some (.cells #[.int .i64 p,(.slice G g.length t)] 30 (0,0))) ∧ Aside0 (Below w.heap.size w wc))
 case first =>
  have H := bv.out;clear bv;replace H := YJ H;obtain ⟨c3,A5,H⟩ := H;replace H := YF H;rcases H with ⟨rfl,H⟩|⟨rfl,H⟩;rotate_left
  ·have H' := ZA H;clear H
   go_wp2_with (first|((with_reducible refine YG 78 ?_);refine YC (some 10) Tryz.func78 #[.slice A0 l0.length c0] (Fo.calls k _ _ l0 false _ (ZR (Kd.Eac aw.out HB.out)) bu.out A5.out) ?_;rintro e c6 ⟨rfl,hb⟩;refine ⟨_,rfl,?_⟩;replace i := ZA (Eaa (ZH i) hb);replace HB := BS HB hb))
   go_meet
   case rel => exact ⟨_,(true),ZG,H',⟨YO⟩,⟨ZH i⟩,⟨ZQ HB⟩⟩
  replace H := YJ H;obtain ⟨c4,A7,H⟩ := H;replace H := YF H;rcases H with ⟨rfl,H⟩|⟨rfl,H⟩;rotate_left
  ·have H' := ZA H;clear H
   go_wp2_with (first|((with_reducible refine YG 78 ?_);refine YC (some 10) Tryz.func78 #[.slice A0 l0.length c0] (Fo.calls k _ _ l0 true _ (ZR (Kd.Eac aw.out HB.out)) bu.out A5.out) ?_;rintro e cq ⟨rfl,hb⟩;refine ⟨_,rfl,?_⟩;replace i := ZA (Eaa (ZH i) hb);replace HB := BS HB hb;have aO : cq.cell? ⟨o,0,none⟩ = some (.int .i64 p) := ZC i 0 rfl;have aP : cq.cell? ⟨o,1,none⟩ = some (.slice G g.length t) := ZC i 1 rfl;have aQ := Ea i.out 0;have aR := Ea i.out 1)|(go_at_call 79;(with_reducible refine (FH.calls k p _ _ g false _ (ZR (Kd.Eac D.out HB.out)) ap.out A7.out).mono ?_);rintro e c7 ⟨rfl,hb⟩;replace i := ZA (Eaa (ZH i) hb);replace HB := BS HB hb))
   go_meet
   case rel => exact ⟨_,(true),ZG,H',⟨YO⟩,⟨ZH i⟩,⟨ZQ HB⟩⟩
  replace H := YJ H;obtain ⟨aH,A9,H⟩ := H;have H' := ZA H;clear H
  go_wp2_with (first|((with_reducible refine YG 78 ?_);refine YC (some 10) Tryz.func78 #[.slice A0 l0.length c0] (Fo.calls k _ _ l0 true _ (ZR (Kd.Eac aw.out HB.out)) bu.out A5.out) ?_;rintro e cr ⟨rfl,hb⟩;refine ⟨_,rfl,?_⟩;replace i := ZA (Eaa (ZH i) hb);replace HB := BS HB hb;have aS : cr.cell? ⟨o,0,none⟩ = some (.int .i64 p) := ZC i 0 rfl;have aT : cr.cell? ⟨o,1,none⟩ = some (.slice G g.length t) := ZC i 1 rfl;have aU := Ea i.out 0;have aV := Ea i.out 1)|(go_at_call 79;(with_reducible refine (FH.calls k p _ _ g true _ (ZR (Kd.Eac D.out HB.out)) ap.out A7.out).mono ?_);rintro e ct ⟨rfl,hb⟩;replace i := ZA (Eaa (ZH i) hb);replace HB := BS HB hb;have aW : ct.cell? ⟨o,0,none⟩ = some (.int .i64 p) := ZC i 0 rfl;have aX : ct.cell? ⟨o,1,none⟩ = some (.slice G g.length t) := ZC i 1 rfl;have aY := Ea i.out 0;have aZ := Ea i.out 1)|(go_at_call 80;(with_reducible refine (GG.calls k _ _ g 0 (wrap64 ((l0.length : Int) - 1)) aH _ (ZR (Kd.Eac D.out HB.out)) ap.out A9.out).mono ?_);rintro e w' ⟨rfl,⟨nd,rfl⟩⟩))
  go_meet
  case rel => exact ⟨_,(!aH),ZG,H',⟨YO⟩,⟨ZH i⟩,⟨ZQ HB⟩⟩
 case rest =>
  clear bv;obtain ⟨kq,M,rfl,HA,au,i,HB⟩ := hcut;cases kq with
  | zero => exact absurd HA.out (by simp [Fn.j0])
  | succ cu =>
   have H := HA.out;clear HA;simp only [Fn.j0] at H;by_cases a0 : M = true
   ·subst a0;rw [if_pos rfl] at H;simp only [Option.some.injEq,Prod.mk.injEq] at H;obtain ⟨rfl,rfl⟩ := H;go_wp2;go_ret2;exact ⟨YR,ZQ HB⟩
   replace a0 := Bool.eq_false_iff.mpr a0;subst a0;rw [if_neg (show ¬ (false = true) by decide)] at H;have H' := ZA H;clear H;have a1 : wc.cell? ⟨o,0,none⟩ = some (.int .i64 p) := ZC i 0 rfl;have a2 : wc.cell? ⟨o,1,none⟩ = some (.slice G g.length t) := ZC i 1 rfl;have a3 := Ea i.out 0;have a4 := Ea i.out 1;go_wp2
   go_loopg [6,29] cu (fun kq v6 c5 w' => ∃ (j : ByteArray) (d : Int),v6 = .string j ∧ c5 = .int .i64 d ∧ Aside0 (Fn.l0 kq l0 j g (g.length : Int) d p g = some (r1,r2)) ∧ Aside0 (kq <= cu) ∧ Aside0 (w'.heap[o]? = some (.cells #[.int .i64 p,(.slice G g.length t)] 30 (0,0))) ∧ Aside0 (Below w.heap.size w w'))
   case atStart => exact ⟨((⟨#[]⟩ : ByteArray)),(0),ZG,ZG,H',⟨Nat.le_refl _⟩,⟨ZH i⟩,⟨ZQ HB⟩⟩
   case round =>
    clear H';obtain ⟨j,d,rfl,rfl,HA,av,i,HB⟩ := hrel;cases gk with
    | zero => exact absurd HA.out (by simp [Fn.l0])
    | succ k2 =>
     have H := HA.out;clear HA;simp only [Fn.l0] at H;replace H := YI H;rcases H with ⟨aI,H⟩|⟨aI,H⟩;rotate_left
     ·simp only [Option.some.injEq,Prod.mk.injEq] at H;obtain ⟨rfl,rfl⟩ := H;go_wp2;go_ret2;exact ⟨YR,ZQ HB⟩
     replace H := YN H;obtain ⟨cv,H⟩ := H;replace H := YN H;obtain ⟨cw,H⟩ := H;replace H := YI H;rcases H with ⟨aJ,H⟩|⟨aJ,H⟩;rotate_left
     ·by_cases ax : (rd g d) = p;rotate_left
      ·rw [if_neg ax] at H;have aK : ((rd g d) == p) = false := beq_eq_false_iff_ne.mpr ax;have aL : ((rd g d) != p) = true := bne_iff_ne.mpr ax;replace H := YN H;obtain ⟨cx,H⟩ := H;replace H := YN H;obtain ⟨cy,H⟩ := H;replace H := YM H;obtain ⟨bw,H⟩ := H;have cz := eq_true bw;have cA := decide_eq_true bw
       try have cB : (9223372036854775807 < j.size + ((rd_T41 l0 (rd g d)).f0).size) = False := eq_false (Nat.not_lt.2 bw)
       have H' := ZA H;clear H;have q : 0 <= (d : Int) := ZD;have s : d < (g.length : Int) := ZD;obtain ⟨E,I,n⟩ := Kd.Eav D.out d q s;cases I;replace n := ZX HB n;replace q := eq_true q;replace s := eq_true s;have a5 : wr.cell? ⟨o,0,none⟩ = some (.int .i64 p) := ZC i 0 rfl;have a6 : wr.cell? ⟨o,1,none⟩ = some (.slice (some E) g.length t) := ZC i 1 rfl;have a7 := Ea i.out 0;have a8 := Ea i.out 1;have ay : 0 <= ((rd g d) : Int) := ZD;have az : (rd g d) < (l0.length : Int) := ZD;obtain ⟨cC,bx,bz,bA,U,V,X,Y,Z⟩ := at_T41 aw.out (rd g d) ay az;cases bA;replace U := ZX HB U;replace V := ZX HB V;replace X := ZX HB X;have a9 := ZA Z;have ba := ZA Y;clear Z Y;replace ay := eq_true ay;replace az := eq_true az;go_wp2
       go_roundg k2
       case measure => have := au.out;have := av.out;omega
       case rel => exact ⟨(j ++ ((rd_T41 l0 (rd g d)).f0)),(wrap64 (d + 1)),ZG,ZG,H',⟨by have := au.out;have := av.out;omega⟩,⟨ZH i⟩,⟨ZQ HB⟩⟩
      rw [if_pos ax] at H;have aK : ((rd g d) == p) = true := beq_iff_eq.mpr ax;have aL : ((rd g d) != p) = false := bne_eq_false_iff_eq.mpr ax;clear ax;replace H := YM H;obtain ⟨bB,H⟩ := H;have cD := eq_true bB;have cE := decide_eq_true bB
      try have cF : (9223372036854775807 < j.size + 1) = False := eq_false (Nat.not_lt.2 bB)
      replace H := YN H;obtain ⟨cG,H⟩ := H;replace H := YN H;obtain ⟨cH,H⟩ := H;replace H := YM H;obtain ⟨bC,H⟩ := H;have u := eq_true bC;have cI := decide_eq_true bC
      try (have bD : (j.size + 1 + ((rd_T41 l0 (rd g d)).f0).size <= 9223372036854775807) = True := (by have zq_ := of_eq_true u;simp only [ByteArray.size_append] at zq_;have m : (⟨#[61]⟩ : ByteArray).size = 1 := rfl;refine eq_true ?_;omega))
      try (have bE : (9223372036854775807 < j.size + 1 + ((rd_T41 l0 (rd g d)).f0).size) = False := (by have zq_ := of_eq_true u;simp only [ByteArray.size_append] at zq_;have m : (⟨#[61]⟩ : ByteArray).size = 1 := rfl;refine eq_false ?_;omega))
      try (have bF : (j.size + ((rd_T41 l0 (rd g d)).f0).size + 1 <= 9223372036854775807) = True := (by have zq_ := of_eq_true u;simp only [ByteArray.size_append] at zq_;have m : (⟨#[61]⟩ : ByteArray).size = 1 := rfl;refine eq_true ?_;omega))
      try (have bG : (9223372036854775807 < j.size + ((rd_T41 l0 (rd g d)).f0).size + 1) = False := (by have zq_ := of_eq_true u;simp only [ByteArray.size_append] at zq_;have m : (⟨#[61]⟩ : ByteArray).size = 1 := rfl;refine eq_false ?_;omega))
      try (have bH : (j.size + ((rd_T41 l0 (rd g d)).f0).size <= 9223372036854775806) = True := (by have zq_ := of_eq_true u;simp only [ByteArray.size_append] at zq_;have m : (⟨#[61]⟩ : ByteArray).size = 1 := rfl;refine eq_true ?_;omega))
      try (have bI : (9223372036854775806 < j.size + ((rd_T41 l0 (rd g d)).f0).size) = False := (by have zq_ := of_eq_true u;simp only [ByteArray.size_append] at zq_;have m : (⟨#[61]⟩ : ByteArray).size = 1 := rfl;refine eq_false ?_;omega))
      try (have bJ : ((j.size + 1) + ((rd_T41 l0 (rd g d)).f0).size <= 9223372036854775807) = True := (by have zq_ := of_eq_true u;simp only [ByteArray.size_append] at zq_;have m : (⟨#[61]⟩ : ByteArray).size = 1 := rfl;refine eq_true ?_;omega))
      try (have bK : (9223372036854775807 < (j.size + 1) + ((rd_T41 l0 (rd g d)).f0).size) = False := (by have zq_ := of_eq_true u;simp only [ByteArray.size_append] at zq_;have m : (⟨#[61]⟩ : ByteArray).size = 1 := rfl;refine eq_false ?_;omega))
      try have cJ : (9223372036854775807 < (j ++ (⟨#[61]⟩ : ByteArray)).size + ((rd_T41 l0 (rd g d)).f0).size) = False := eq_false (Nat.not_lt.2 bC)
      have H' := ZA H;clear H;have q : 0 <= (d : Int) := ZD;have s : d < (g.length : Int) := ZD;obtain ⟨E,I,n⟩ := Kd.Eav D.out d q s;cases I;replace n := ZX HB n;replace q := eq_true q;replace s := eq_true s;have bb : wr.cell? ⟨o,0,none⟩ = some (.int .i64 p) := ZC i 0 rfl;have bc : wr.cell? ⟨o,1,none⟩ = some (.slice (some E) g.length t) := ZC i 1 rfl;have bd := Ea i.out 0;have bf := Ea i.out 1;have aA : 0 <= ((rd g d) : Int) := ZD;have aB : (rd g d) < (l0.length : Int) := ZD;obtain ⟨cK,bL,bM,bN,aa,ab,ac,ad,ae⟩ := at_T41 aw.out (rd g d) aA aB;cases bN;replace aa := ZX HB aa;replace ab := ZX HB ab;replace ac := ZX HB ac;have bg := ZA ae;have bh := ZA ad;clear ae ad;replace aA := eq_true aA;replace aB := eq_true aB;go_wp2
      go_roundg k2
      case measure => have := au.out;have := av.out;omega
      case rel => exact ⟨((j ++ (⟨#[61]⟩ : ByteArray)) ++ ((rd_T41 l0 (rd g d)).f0)),(wrap64 (d + 1)),ZG,ZG,H',⟨by have := au.out;have := av.out;omega⟩,⟨ZH i⟩,⟨ZQ HB⟩⟩
     replace H := YM H;obtain ⟨bO,H⟩ := H;have cL := eq_true bO;have cM := decide_eq_true bO
     try have cN : (9223372036854775807 < j.size + 1) = False := eq_false (Nat.not_lt.2 bO)
     by_cases aC : (rd g d) = p;rotate_left
     ·rw [if_neg aC] at H;have aM : ((rd g d) == p) = false := beq_eq_false_iff_ne.mpr aC;have aN : ((rd g d) != p) = true := bne_iff_ne.mpr aC;replace H := YN H;obtain ⟨cO,H⟩ := H;replace H := YN H;obtain ⟨cP,H⟩ := H;replace H := YM H;obtain ⟨bP,H⟩ := H;have v := eq_true bP;have cQ := decide_eq_true bP
      try (have bQ : (j.size + 1 + ((rd_T41 l0 (rd g d)).f0).size <= 9223372036854775807) = True := (by have zq_ := of_eq_true v;simp only [ByteArray.size_append] at zq_;have m : (⟨#[32]⟩ : ByteArray).size = 1 := rfl;refine eq_true ?_;omega))
      try (have bR : (9223372036854775807 < j.size + 1 + ((rd_T41 l0 (rd g d)).f0).size) = False := (by have zq_ := of_eq_true v;simp only [ByteArray.size_append] at zq_;have m : (⟨#[32]⟩ : ByteArray).size = 1 := rfl;refine eq_false ?_;omega))
      try (have bS : (j.size + ((rd_T41 l0 (rd g d)).f0).size + 1 <= 9223372036854775807) = True := (by have zq_ := of_eq_true v;simp only [ByteArray.size_append] at zq_;have m : (⟨#[32]⟩ : ByteArray).size = 1 := rfl;refine eq_true ?_;omega))
      try (have bT : (9223372036854775807 < j.size + ((rd_T41 l0 (rd g d)).f0).size + 1) = False := (by have zq_ := of_eq_true v;simp only [ByteArray.size_append] at zq_;have m : (⟨#[32]⟩ : ByteArray).size = 1 := rfl;refine eq_false ?_;omega))
      try (have bU : (j.size + ((rd_T41 l0 (rd g d)).f0).size <= 9223372036854775806) = True := (by have zq_ := of_eq_true v;simp only [ByteArray.size_append] at zq_;have m : (⟨#[32]⟩ : ByteArray).size = 1 := rfl;refine eq_true ?_;omega))
      try (have bV : (9223372036854775806 < j.size + ((rd_T41 l0 (rd g d)).f0).size) = False := (by have zq_ := of_eq_true v;simp only [ByteArray.size_append] at zq_;have m : (⟨#[32]⟩ : ByteArray).size = 1 := rfl;refine eq_false ?_;omega))
      try (have bW : ((j.size + 1) + ((rd_T41 l0 (rd g d)).f0).size <= 9223372036854775807) = True := (by have zq_ := of_eq_true v;simp only [ByteArray.size_append] at zq_;have m : (⟨#[32]⟩ : ByteArray).size = 1 := rfl;refine eq_true ?_;omega))
      try (have bX : (9223372036854775807 < (j.size + 1) + ((rd_T41 l0 (rd g d)).f0).size) = False := (by have zq_ := of_eq_true v;simp only [ByteArray.size_append] at zq_;have m : (⟨#[32]⟩ : ByteArray).size = 1 := rfl;refine eq_false ?_;omega))
      try have cR : (9223372036854775807 < (j ++ (⟨#[32]⟩ : ByteArray)).size + ((rd_T41 l0 (rd g d)).f0).size) = False := eq_false (Nat.not_lt.2 bP)
      have H' := ZA H;clear H;have q : 0 <= (d : Int) := ZD;have s : d < (g.length : Int) := ZD;obtain ⟨E,I,n⟩ := Kd.Eav D.out d q s;cases I;replace n := ZX HB n;replace q := eq_true q;replace s := eq_true s;have bi : wr.cell? ⟨o,0,none⟩ = some (.int .i64 p) := ZC i 0 rfl;have bj : wr.cell? ⟨o,1,none⟩ = some (.slice (some E) g.length t) := ZC i 1 rfl;have bk := Ea i.out 0;have bl := Ea i.out 1;have aD : 0 <= ((rd g d) : Int) := ZD;have aE : (rd g d) < (l0.length : Int) := ZD;obtain ⟨cS,bY,bZ,b0,af,ag,ah,ai,aj⟩ := at_T41 aw.out (rd g d) aD aE;cases b0;replace af := ZX HB af;replace ag := ZX HB ag;replace ah := ZX HB ah;have bm := ZA aj;have bn := ZA ai;clear aj ai;replace aD := eq_true aD;replace aE := eq_true aE;go_wp2
      go_roundg k2
      case measure => have := au.out;have := av.out;omega
      case rel => exact ⟨((j ++ (⟨#[32]⟩ : ByteArray)) ++ ((rd_T41 l0 (rd g d)).f0)),(wrap64 (d + 1)),ZG,ZG,H',⟨by have := au.out;have := av.out;omega⟩,⟨ZH i⟩,⟨ZQ HB⟩⟩
     rw [if_pos aC] at H;have aM : ((rd g d) == p) = true := beq_iff_eq.mpr aC;have aN : ((rd g d) != p) = false := bne_eq_false_iff_eq.mpr aC;clear aC;replace H := YM H;obtain ⟨b1,H⟩ := H;have y := eq_true b1;have cT := decide_eq_true b1
     try (have b2 : (j.size + 1 + 1 <= 9223372036854775807) = True := (by have zq_ := of_eq_true y;simp only [ByteArray.size_append] at zq_;have m : (⟨#[32]⟩ : ByteArray).size = 1 := rfl;refine eq_true ?_;omega))
     try (have b3 : (9223372036854775807 < j.size + 1 + 1) = False := (by have zq_ := of_eq_true y;simp only [ByteArray.size_append] at zq_;have m : (⟨#[32]⟩ : ByteArray).size = 1 := rfl;refine eq_false ?_;omega))
     try (have b4 : (j.size + 2 <= 9223372036854775807) = True := (by have zq_ := of_eq_true y;simp only [ByteArray.size_append] at zq_;have m : (⟨#[32]⟩ : ByteArray).size = 1 := rfl;refine eq_true ?_;omega))
     try (have b5 : (9223372036854775807 < j.size + 2) = False := (by have zq_ := of_eq_true y;simp only [ByteArray.size_append] at zq_;have m : (⟨#[32]⟩ : ByteArray).size = 1 := rfl;refine eq_false ?_;omega))
     try (have b6 : (j.size <= 9223372036854775805) = True := (by have zq_ := of_eq_true y;simp only [ByteArray.size_append] at zq_;have m : (⟨#[32]⟩ : ByteArray).size = 1 := rfl;refine eq_true ?_;omega))
     try (have b7 : (9223372036854775805 < j.size) = False := (by have zq_ := of_eq_true y;simp only [ByteArray.size_append] at zq_;have m : (⟨#[32]⟩ : ByteArray).size = 1 := rfl;refine eq_false ?_;omega))
     try (have b8 : ((j.size + 1) + 1 <= 9223372036854775807) = True := (by have zq_ := of_eq_true y;simp only [ByteArray.size_append] at zq_;have m : (⟨#[32]⟩ : ByteArray).size = 1 := rfl;refine eq_true ?_;omega))
     try (have b9 : (9223372036854775807 < (j.size + 1) + 1) = False := (by have zq_ := of_eq_true y;simp only [ByteArray.size_append] at zq_;have m : (⟨#[32]⟩ : ByteArray).size = 1 := rfl;refine eq_false ?_;omega))
     try have cU : (9223372036854775807 < (j ++ (⟨#[32]⟩ : ByteArray)).size + 1) = False := eq_false (Nat.not_lt.2 b1)
     replace H := YN H;obtain ⟨cV,H⟩ := H;replace H := YN H;obtain ⟨cW,H⟩ := H;replace H := YM H;obtain ⟨ca,H⟩ := H;have z := eq_true ca;have cX := decide_eq_true ca
     try (have cb : (j.size + 1 + 1 + ((rd_T41 l0 (rd g d)).f0).size <= 9223372036854775807) = True := (by have zq_ := of_eq_true z;simp only [ByteArray.size_append] at zq_;have m : (⟨#[32]⟩ : ByteArray).size = 1 := rfl;have J : (⟨#[61]⟩ : ByteArray).size = 1 := rfl;refine eq_true ?_;omega))
     try (have cc : (9223372036854775807 < j.size + 1 + 1 + ((rd_T41 l0 (rd g d)).f0).size) = False := (by have zq_ := of_eq_true z;simp only [ByteArray.size_append] at zq_;have m : (⟨#[32]⟩ : ByteArray).size = 1 := rfl;have J : (⟨#[61]⟩ : ByteArray).size = 1 := rfl;refine eq_false ?_;omega))
     try (have cd : (j.size + ((rd_T41 l0 (rd g d)).f0).size + 2 <= 9223372036854775807) = True := (by have zq_ := of_eq_true z;simp only [ByteArray.size_append] at zq_;have m : (⟨#[32]⟩ : ByteArray).size = 1 := rfl;have J : (⟨#[61]⟩ : ByteArray).size = 1 := rfl;refine eq_true ?_;omega))
     try (have ce : (9223372036854775807 < j.size + ((rd_T41 l0 (rd g d)).f0).size + 2) = False := (by have zq_ := of_eq_true z;simp only [ByteArray.size_append] at zq_;have m : (⟨#[32]⟩ : ByteArray).size = 1 := rfl;have J : (⟨#[61]⟩ : ByteArray).size = 1 := rfl;refine eq_false ?_;omega))
     try (have cf : (j.size + ((rd_T41 l0 (rd g d)).f0).size <= 9223372036854775805) = True := (by have zq_ := of_eq_true z;simp only [ByteArray.size_append] at zq_;have m : (⟨#[32]⟩ : ByteArray).size = 1 := rfl;have J : (⟨#[61]⟩ : ByteArray).size = 1 := rfl;refine eq_true ?_;omega))
     try (have cg : (9223372036854775805 < j.size + ((rd_T41 l0 (rd g d)).f0).size) = False := (by have zq_ := of_eq_true z;simp only [ByteArray.size_append] at zq_;have m : (⟨#[32]⟩ : ByteArray).size = 1 := rfl;have J : (⟨#[61]⟩ : ByteArray).size = 1 := rfl;refine eq_false ?_;omega))
     try (have ch : ((j.size + 1 + 1) + ((rd_T41 l0 (rd g d)).f0).size <= 9223372036854775807) = True := (by have zq_ := of_eq_true z;simp only [ByteArray.size_append] at zq_;have m : (⟨#[32]⟩ : ByteArray).size = 1 := rfl;have J : (⟨#[61]⟩ : ByteArray).size = 1 := rfl;refine eq_true ?_;omega))
     try (have ci : (9223372036854775807 < (j.size + 1 + 1) + ((rd_T41 l0 (rd g d)).f0).size) = False := (by have zq_ := of_eq_true z;simp only [ByteArray.size_append] at zq_;have m : (⟨#[32]⟩ : ByteArray).size = 1 := rfl;have J : (⟨#[61]⟩ : ByteArray).size = 1 := rfl;refine eq_false ?_;omega))
     try have cY : (9223372036854775807 < ((j ++ (⟨#[32]⟩ : ByteArray)) ++ (⟨#[61]⟩ : ByteArray)).size + ((rd_T41 l0 (rd g d)).f0).size) = False := eq_false (Nat.not_lt.2 ca)
     have H' := ZA H;clear H;have q : 0 <= (d : Int) := ZD;have s : d < (g.length : Int) := ZD;obtain ⟨E,I,n⟩ := Kd.Eav D.out d q s;cases I;replace n := ZX HB n;replace q := eq_true q;replace s := eq_true s;have bo : wr.cell? ⟨o,0,none⟩ = some (.int .i64 p) := ZC i 0 rfl;have bp : wr.cell? ⟨o,1,none⟩ = some (.slice (some E) g.length t) := ZC i 1 rfl;have bq := Ea i.out 0;have br := Ea i.out 1;have aF : 0 <= ((rd g d) : Int) := ZD;have aG : (rd g d) < (l0.length : Int) := ZD;obtain ⟨cZ,cj,ck,cl,ak,al,am,an,ao⟩ := at_T41 aw.out (rd g d) aF aG;cases cl;replace ak := ZX HB ak;replace al := ZX HB al;replace am := ZX HB am;have bs := ZA ao;have bt := ZA an;clear ao an;replace aF := eq_true aF;replace aG := eq_true aG;go_wp2
     go_roundg k2
     case measure => have := au.out;have := av.out;omega
     case rel => exact ⟨(((j ++ (⟨#[32]⟩ : ByteArray)) ++ (⟨#[61]⟩ : ByteArray)) ++ ((rd_T41 l0 (rd g d)).f0)),(wrap64 (d + 1)),ZG,ZG,H',⟨by have := au.out;have := av.out;omega⟩,⟨ZH i⟩,⟨ZQ HB⟩⟩
def FW.f (k : Nat) (l0 : List Int) : Option ((List (S41)) × (List (List Int)) × Int × Int × List Int) := (Fx.f k l0 0 0).bind fun d => ((Fe.f k l0 d.2.2.2.1 d.2.2.2.2 (d.1.length : Int)).bind fun g => (some (d.1,d.2.1,d.2.2.1,g.1,g.2.1)))
theorem FW.calls (k : Nat) (A0 : Option Addr) (c0 : Nat) (l0 : List Int) (r1 : List (S41)) (r2 : List (List Int)) (r3 : Int) (r4 : Int) (r5 : List Int) (w : World) (aj : Kd.C (Kd.int .u8) w A0 l0.length l0) (ak : l0.length <= c0) (h : FW.f k l0 = some (r1,r2,r3,r4,r5)) :
  Calls Tryz.prog 24 #[.slice A0 l0.length c0] w fun e w' => ∃ X Y V : Value,e = .returned (.tuple #[X,Y,.int .i64 r3,.agg #[.int .i64 r4,V]]) ∧ Kd.N k41 41 w' w.heap.size (fun k_ => (w.heap.size <= k_) ∧ some k_ ≠ (Y : Value).ownBlock ∧ some k_ ≠ (V : Value).ownBlock) X r1 ∧ Kd.N (Kd.slice 3 (Kd.int .i64)) 28 w' w.heap.size (fun k_ => (w.heap.size <= k_) ∧ some k_ ≠ (X : Value).ownBlock ∧ some k_ ≠ (V : Value).ownBlock) Y r2 ∧ Kd.R (Kd.int .i64) 3 w' w.heap.size (fun k_ => (w.heap.size <= k_)) V r5 ∧ Below w.heap.size w w' := by
 have an := Tryz.underlying30;have ao := Tryz.underlying82;have ap := ZA aj;have az := ZA ak;clear aj ak;have HB := ZA (Below.refl w.heap.size w);have H := h;clear h;unfold FW.f at H;replace H := YJ H;obtain ⟨⟨y,Z,ae,G,I⟩,A2,H⟩ := H;try dsimp only at H
 replace H := YJ H;obtain ⟨⟨s,u,af,ag⟩,A3,H⟩ := H;try dsimp only at H
 simp only [Option.some.injEq,Prod.mk.injEq] at H;obtain ⟨rfl,rfl,rfl,rfl,rfl⟩ := H;go_enter Tryz.func24,Tryz.ntmps24
 go_wp2_with (first|((with_reducible refine Eaf (N := 5) rfl ?_);refine ZE 5 #[.int .i64 0,.slice none 0 0] 30 ?_;intro d hg w4 hbox hb;have i := ZA (hbox);have al := YQ hg HB;have am := YQ hg HB;replace HB := BS HB hb;clear hb hbox hg)|((with_reducible refine Eaf (N := 12) rfl ?_);refine ZE 12 #[.slice A0 l0.length c0,.int .i64 0,.int .u64 0] 82 ?_;intro j hg w5 hbox hb;have n := ZA ((⟨_,_,hbox,(by rw [hg];exact (SZ HB)),ap.out⟩ : IsS82 w w5 j l0 0 0));replace HB := BS HB hb;have m := ZA ((by rw [hg];exact Nat.ne_of_lt (Eau (g := d) (o := .cells #[.int .i64 0,.slice none 0 0] 30 (0,0)) (ZH i)) : d ≠ j));have t := ZA ((by rw [hg];exact Nat.ne_of_gt (Eau (g := d) (o := .cells #[.int .i64 0,.slice none 0 0] 30 (0,0)) (ZH i)) : j ≠ d));replace i := ZA (Eaa (ZH i) hb);clear hb hbox hg)|((with_reducible refine YG 58 ?_);refine YC (some 15) Tryz.func58 #[.pointer (some ⟨j,0,none⟩)] (Fx.calls k j l0 0 0 y Z ae G I w _ (ZS n) (ZJ HB) A2.out) ?_;rintro e w6 ⟨ah,J,rfl,U,aq,hi,hb,hk⟩;refine ⟨_,rfl,?_⟩;have q := ZA (Kd.Ece (Kd.Ead (ok' := fun k_ => (w.heap.size <= k_) ∧ some k_ ≠ (J : Value).ownBlock ∧ k_ ≠ d ∧ k_ ≠ j) U (fun k_ hk_ => ⟨(Nat.le_trans (Ear (ZJ HB)) hk_.1),hk_.2,(Kd.Ebr (ZH i) k_ hk_.1),(IsS82.fresh (ZS n) k_ hk_.1)⟩)) (Ear (ZJ HB)));have v := ZA (Kd.Ece (Kd.Ead (ok' := fun k_ => (w.heap.size <= k_) ∧ some k_ ≠ (ah : Value).ownBlock ∧ k_ ≠ d ∧ k_ ≠ j) aq (fun k_ hk_ => ⟨(Nat.le_trans (Ear (ZJ HB)) hk_.1),hk_.2,(Kd.Ebr (ZH i) k_ hk_.1),(IsS82.fresh (ZS n) k_ hk_.1)⟩)) (Ear (ZJ HB)));replace i := ZA (Eab.blk hk (g' := d) (o := .cells #[.int .i64 0,.slice none 0 0] 30 (0,0)) (ZH i) m.out (by simp));replace HB := ZA (hb);replace n := ZA (hi);obtain ⟨ar,au,av⟩ := Kd.Ecd q.out;subst av)|((with_reducible refine YG 77 ?_);refine YC (some 25) Tryz.func77 #[.pointer (some ⟨j,0,none⟩),.int .i64 (y.length : Int)] (Fe.calls k j l0 G I (y.length : Int) s u af ag w _ (ZS n) (ZJ HB) A3.out) ?_;rintro e w8 ⟨aw,rfl,U,hi,hb,hk⟩;refine ⟨_,rfl,?_⟩;replace i := ZA (Eab.blk hk (g' := d) (o := .cells #[.int .i64 0,.slice none 0 0] 30 (0,0)) (ZH i) m.out (by simp));replace q := ZA (Kd.Ead (Kd.Ebf (Kd.Ejb (Kd.Ead (ok := fun k_ => (((w.heap.size <= k_)) ∧ (some k_ ≠ (J : Value).ownBlock ∧ (k_ ≠ d ∧ k_ ≠ j)))) (ZKN q) (fun k_ hk_ => (⟨hk_,hk_.2.2.2⟩ : _ ∧ k_ ≠ j))) hk) (Kd.Eal U)) (fun _ h_ => h_.1));replace v := ZA (Kd.Ead (Kd.Ebf (Kd.Ejb (Kd.Ead (ok := fun k_ => (((w.heap.size <= k_)) ∧ (some k_ ≠ (.slice ar y.length au : Value).ownBlock ∧ (k_ ≠ d ∧ k_ ≠ j)))) (ZKN v) (fun k_ hk_ => (⟨hk_,hk_.2.2.2⟩ : _ ∧ k_ ≠ j))) hk) (Kd.Eal U)) (fun _ h_ => h_.1));have E := ZA (Kd.Eaz (Kd.Eea (M := fun k_ => (w.heap.size <= k_)) U (Ear (ZJ HB)) (fun k_ h_ => h_)) (Ear (ZJ HB)));replace HB := ZA (hb);replace n := ZA (hi);have ax := m.out;have ay := t.out;have aa : w8.cell? ⟨d,0,none⟩ = some (.int .i64 0) := ZC i 0 rfl;have ab : w8.cell? ⟨d,1,none⟩ = some (.slice none 0 0) := ZC i 1 rfl;have ac := Ea i.out 0;have ad := Ea i.out 1;obtain ⟨z,D,ai⟩ := Kd.Eai E.out;subst ai))
 refine bodyPost_ret (Efp (rs := [.tmp 2,.tmp 3,.tmp 4,.cell 5 30]) rfl (by simp) (.tmp (.tmp (.tmp (.cell d 30 #[.int .i64 s,.slice z u.length D] (0,0) _ rfl (by refine ZY ?_;refine Eae (cs := #[.int .i64 s,.slice none 0 0]) ?_ 1 _ rfl;refine ZY ?_;refine Eae (cs := #[.int .i64 0,.slice none 0 0]) ?_ 0 _ rfl;refine ZY ?_;exact i.out) Tryz.underlying30 rfl (by kernel_rfl) .nil))))) rfl ?_;exact ⟨_,_,_,YR,ZKN ⟨Kd.Ead (Kd.Eaq (p := ⟨d,1,none⟩) (Kd.Eaq (p := ⟨d,0,none⟩) (Kd.Ead q.out (fun k_ hk => (⟨hk,hk.1.2.2.1⟩ : _ ∧ k_ ≠ d))) (fun _ hk => hk.2) (.int .i64 s)) (fun _ hk => hk.2) (.slice z u.length D)) (fun _ hk => ⟨hk.1.1.1,⟨hk.1.1.2.1,hk.1.2⟩⟩)⟩,ZKN ⟨Kd.Ead (Kd.Eaq (p := ⟨d,1,none⟩) (Kd.Eaq (p := ⟨d,0,none⟩) (Kd.Ead v.out (fun k_ hk => (⟨hk,hk.1.2.2.1⟩ : _ ∧ k_ ≠ d))) (fun _ hk => hk.2) (.int .i64 s)) (fun _ hk => hk.2) (.slice z u.length D)) (fun _ hk => ⟨hk.1.1.1,⟨hk.1.1.2.1,hk.1.2⟩⟩)⟩,ZK ⟨Kd.Eaj (Kd.Ebd (p := ⟨d,1,none⟩) (Kd.Ebd (p := ⟨d,0,none⟩) (Kd.Eay E.out i.out (by decide)) (fun _ hk => hk.2) (.int .i64 s)) (fun _ hk => hk.2) (.slice z u.length D)) (fun _ hk => hk.1.1)⟩,ZJ HB⟩
def GC.l0 : Nat -> List Int -> List Int -> Int -> Int -> Option (Bool)
 | 0,_,_,_,_ => none
 | k + 1,x0,x8,x9,d => if d < x9 then (if 0 <= d then (if d < (x8.length : Int) then ((Fp.f k x0 (rd x8 d)).bind fun g => (if g = true then (GC.l0 k x0 x8 x9 (wrap64 (d + 1))) else (some false))) else (none)) else (none)) else (some true)
def GC.f (k : Nat) (l0 : List Int) (aa : Int) (d : List Int) : Option (Bool) := GC.l0 k l0 d (d.length : Int) 0
theorem GC.calls (k : Nat) (A0 : Option Addr) (c0 : Nat) (l0 : List Int) (o : Int) (p : Option Addr) (q : Nat) (g : List Int) (r : Bool) (w : World) (E : Kd.C (Kd.int .i64) w A0 l0.length l0) (G : l0.length <= c0) (t : Kd.C (Kd.int .i64) w p g.length g) (u : g.length <= q) (h : GC.f k l0 o g = some r) :
  Calls Tryz.prog 81 #[.slice A0 l0.length c0,.agg #[.int .i64 o,.slice p g.length q]] w fun e w' => e = .returned (.bool r) ∧ Below w.heap.size w w' := by
 have ah := Tryz.underlying30;have I := ZA E;have J := ZA G;clear E G;have v := ZA t;have ae := ZA u;clear t u;have HB := ZA (Below.refl w.heap.size w);have H : (GC.l0 k l0 g (g.length : Int) 0) = some r := h;clear h;have H' := ZA H;clear H;go_enter Tryz.func81,Tryz.ntmps81
 go_wp2_with (first|((with_reducible refine Eaf (N := 3) rfl ?_);refine ZE 3 #[.int .i64 o,.slice p g.length q] 30 ?_;intro s hg w3 hbox hb;have j := ZA (hbox);have af := YQ hg HB;have ag := YQ hg HB;replace HB := BS HB hb;clear hb hbox hg;have aa : w3.cell? ⟨s,0,none⟩ = some (.int .i64 o) := ZC j 0 rfl;have ab : w3.cell? ⟨s,1,none⟩ = some (.slice p g.length q) := ZC j 1 rfl;have ac := Ea j.out 0;have ad := Ea j.out 1))
 go_loopg [10] k (fun kq U w' => ∃ (d : Int),U = .int .i64 d ∧ Aside0 (GC.l0 kq l0 g (g.length : Int) d = some r) ∧ Aside0 (kq <= k) ∧ Aside0 (w'.heap[s]? = some (.cells #[.int .i64 o,(.slice p g.length q)] 30 (0,0))) ∧ Aside0 (Below w.heap.size w w'))
 case atStart => exact ⟨(0),ZG,H',⟨Nat.le_refl _⟩,⟨ZH j⟩,⟨ZQ HB⟩⟩
 case round =>
  clear H';obtain ⟨d,rfl,HA,M,j,HB⟩ := hrel;cases gk with
  | zero => exact absurd HA.out (by simp [GC.l0])
  | succ k1 =>
   have H := HA.out;clear HA;simp only [GC.l0] at H;replace H := YI H;rcases H with ⟨D,H⟩|⟨D,H⟩;rotate_left
   ·obtain rfl := Option.some.inj H;go_wp2;go_ret;exact ⟨YR,ZQ HB⟩
   replace H := YN H;obtain ⟨ai,H⟩ := H;replace H := YN H;obtain ⟨aj,H⟩ := H;replace H := YJ H;obtain ⟨ak,A8,H⟩ := H;replace H := YF H;rcases H with ⟨rfl,H⟩|⟨rfl,H⟩;rotate_left
   ·obtain rfl := Option.some.inj H;have m : 0 <= (d : Int) := ZD;have n : d < (g.length : Int) := ZD;obtain ⟨z,y,i⟩ := Kd.Eav v.out d m n;cases y;replace i := ZX HB i;replace m := eq_true m;replace n := eq_true n
    go_wp2_with (first|((with_reducible refine YG 72 ?_);refine YC (some 16) Tryz.func72 #[.slice A0 l0.length c0,.int .i64 (rd g d)] (Fp.calls k1 _ _ l0 (rd g d) false _ (ZR (Kd.Eac I.out HB.out)) J.out A8.out) ?_;rintro e w' ⟨rfl,⟨nd,rfl⟩⟩;refine ⟨_,rfl,?_⟩))
    go_ret;exact ⟨YR,ZQ HB⟩
   have H' := ZA H;clear H;have m : 0 <= (d : Int) := ZD;have n : d < (g.length : Int) := ZD;obtain ⟨z,y,i⟩ := Kd.Eav v.out d m n;cases y;replace i := ZX HB i;replace m := eq_true m;replace n := eq_true n
   go_wp2_with (first|((with_reducible refine YG 72 ?_);refine YC (some 16) Tryz.func72 #[.slice A0 l0.length c0,.int .i64 (rd g d)] (Fp.calls k1 _ _ l0 (rd g d) true _ (ZR (Kd.Eac I.out HB.out)) J.out A8.out) ?_;rintro e w' ⟨rfl,⟨nd,rfl⟩⟩;refine ⟨_,rfl,?_⟩))
   go_roundg k1
   case measure => have := M.out;omega
   case rel => exact ⟨(wrap64 (d + 1)),ZG,H',⟨by have := M.out;omega⟩,⟨ZH j⟩,⟨ZQ HB⟩⟩
def FA.j0 : Nat -> List (List Int) -> Int -> Bool -> Int -> List Int -> Option (Bool × Bool)
 | 0,_,_,_,_,_ => none
 | k + 1,x1,x2,m,d,g => if m = true then (some (false,false)) else ((Fm.f k x1 x2).bind fun i => ((GC.f k i d g).bind fun j => (some (j,true))))
def FA.f (k : Nat) (l0 : List (S41)) (l1 : List (List Int)) (a2 : Int) (d : Int) (g : List Int) : Option (Bool × Bool) := (FV.f k l0 l1 a2).bind fun i => (if i = true then ((FH.f k d g).bind fun j => (FA.j0 k l1 a2 (!j) d g)) else (FA.j0 k l1 a2 true d g))
theorem FA.calls (k : Nat) (A0 : Option Addr) (c0 : Nat) (l0 : List (S41)) (A1 : Option Addr) (c1 : Nat) (l1 : List (List Int)) (a2 : Int) (j : Int) (p : Option Addr) (q : Nat) (g : List Int) (r1 : Bool) (r2 : Bool) (w : World) (Z : Kd.C k41 w A0 l0.length l0) (ae : l0.length <= c0) (af : Kd.C (Kd.slice 3 (Kd.int .i64)) w A1 l1.length l1) (ag : l1.length <= c1) (t : Kd.C (Kd.int .i64) w p g.length g) (u : g.length <= q) (h : FA.f k l0 l1 a2 j g = some (r1,r2)) :
  Calls Tryz.prog 25 #[.slice A0 l0.length c0,.slice A1 l1.length c1,.int .i64 a2,.agg #[.int .i64 j,.slice p g.length q]] w fun e w' => e = .returned (.tuple #[.bool r1,.bool r2]) ∧ Below w.heap.size w w' := by
 have an := Tryz.underlying30;have ah := ZA Z;have ai := ZA ae;clear Z ae;have J := ZA af;have M := ZA ag;clear af ag;have y := ZA t;have z := ZA u;clear t u;have HB := ZA (Below.refl w.heap.size w);have H := h;clear h;unfold FA.f at H;have U := ZA H;clear H;go_enter Tryz.func25,Tryz.ntmps25
 go_upto_region 1 with (first|((with_reducible refine Eaf (N := 7) rfl ?_);refine ZE 7 #[.int .i64 j,.slice p g.length q] 30 ?_;intro m hg w6 hbox hb;have d := ZA (hbox);have aj := YQ hg HB;have ak := YQ hg HB;replace HB := BS HB hb;clear hb hbox hg))
 (try simp only [Act.put,zuA,zuB,zuC])
 go_cut [19] (fun ao wc => ∃ (kq : Nat) (s : Bool),ao = .bool s ∧ Aside0 (FA.j0 kq l1 a2 s j g = some (r1,r2)) ∧ Aside0 (kq <= k) ∧ Aside0 (wc.heap[m]? = some (.cells #[.int .i64 j,(.slice p g.length q)] 30 (0,0))) ∧ Aside0 (Below w.heap.size w wc))
 case first =>
  have H := U.out;clear U;replace H := YJ H;obtain ⟨ap,A7,H⟩ := H;replace H := YF H;rcases H with ⟨rfl,H⟩|⟨rfl,H⟩;rotate_left
  ·have H' := ZA H;clear H
   go_wp2_with (first|((with_reducible refine YG 64 ?_);refine YC (some 13) Tryz.func64 #[.slice A0 l0.length c0,.slice A1 l1.length c1,.int .i64 a2] (FV.calls k _ _ l0 _ _ l1 a2 false _ (ZR (Kd.Eac ah.out HB.out)) ai.out (ZR (Kd.Eac J.out HB.out)) M.out A7.out) ?_;rintro e ay ⟨rfl,hb⟩;refine ⟨_,rfl,?_⟩;replace d := ZA (Eaa (ZH d) hb);replace HB := BS HB hb))
   go_meet
   case rel => exact ⟨_,(true),ZG,H',⟨YO⟩,⟨ZH d⟩,⟨ZQ HB⟩⟩
  replace H := YJ H;obtain ⟨E,A9,H⟩ := H;have H' := ZA H;clear H
  go_wp2_with (first|((with_reducible refine YG 64 ?_);refine YC (some 13) Tryz.func64 #[.slice A0 l0.length c0,.slice A1 l1.length c1,.int .i64 a2] (FV.calls k _ _ l0 _ _ l1 a2 true _ (ZR (Kd.Eac ah.out HB.out)) ai.out (ZR (Kd.Eac J.out HB.out)) M.out A7.out) ?_;rintro e al ⟨rfl,hb⟩;refine ⟨_,rfl,?_⟩;replace d := ZA (Eaa (ZH d) hb);replace HB := BS HB hb;have aa : al.cell? ⟨m,0,none⟩ = some (.int .i64 j) := ZC d 0 rfl;have ab : al.cell? ⟨m,1,none⟩ = some (.slice p g.length q) := ZC d 1 rfl;have ac := Ea d.out 0;have ad := Ea d.out 1)|(go_at_call 79;(with_reducible refine (FH.calls k j _ _ g E _ (ZR (Kd.Eac y.out HB.out)) z.out A9.out).mono ?_);rintro e az ⟨rfl,hb⟩;replace d := ZA (Eaa (ZH d) hb);replace HB := BS HB hb))
  go_meet
  case rel => exact ⟨_,(!E),ZG,H',⟨YO⟩,⟨ZH d⟩,⟨ZQ HB⟩⟩
 case rest =>
  clear U;obtain ⟨kq,s,rfl,HA,aA,d,HB⟩ := hcut;cases kq with
  | zero => exact absurd HA.out (by simp [FA.j0])
  | succ am =>
   have H := HA.out;clear HA;simp only [FA.j0] at H;by_cases I : s = true
   ·subst I;rw [if_pos rfl] at H;simp only [Option.some.injEq,Prod.mk.injEq] at H;obtain ⟨rfl,rfl⟩ := H;go_wp2;go_ret2;exact ⟨YR,ZQ HB⟩
   replace I := Bool.eq_false_iff.mpr I;subst I;rw [if_neg (show ¬ (false = true) by decide)] at H;replace H := YJ H;obtain ⟨D,aq,H⟩ := H;replace H := YJ H;obtain ⟨V,ar,H⟩ := H;simp only [Option.some.injEq,Prod.mk.injEq] at H;obtain ⟨rfl,rfl⟩ := H
   try go_wp2
   replace d := ZA (Eaw d.out);replace HB := ZA (Eam HB.out);refine Eca (n := 7) (S := fun w' => w'.cell? ⟨m,0,none⟩ = some (.int .i64 j) ∧ w'.cell? ⟨m,1,none⟩ = some (.slice p g.length q)) (ds := []) (ZL 7 0) (by kernel_rfl) rfl rfl ⟨ZC d 0 rfl,ZC d 1 rfl⟩ (fun hHeld => ?_);generalize wc.drew = aB at d HB hHeld ⊢;refine Egk (i := 0) (N := some 20) (v := ?_) (a' := ?_) (ZL 7 1) rfl rfl (by kernel_rfl) (fun _ _ _ h => h) (Or.inl ⟨by rfl,?_⟩) ?_ ?_;rotate_left
   ·intro w'
    go_simp
    with_reducible rfl
   rotate_left
   ·simp only [Act.put,zuA,zuB,zuC,Ecw,Edo];rfl
   refine Egk (i := 1) (N := some 21) (v := ?_) (a' := ?_) (ZL 7 3) rfl rfl (by kernel_rfl) (fun _ _ _ h => h) (Or.inl ⟨by rfl,?_⟩) ?_ ?_;rotate_left
   ·intro w'
    go_simp
    with_reducible rfl
   rotate_left
   ·simp only [Act.put,zuA,zuB,zuC,Ecw,Edo];rfl
   refine Ejg (i := 3) (N := some 23) (v := ?_) (a' := ?_) (ZL 7 11) rfl rfl (by kernel_rfl) (fun _ _ _ h => h) (Or.inl ⟨by rfl,?_⟩) hHeld ?_ ?_;rotate_left
   ·rintro w' ⟨s0,s1⟩
    go_simp
    with_reducible rfl
   rotate_left
   ·simp only [Act.put,zuA,zuB,zuC,Ecw,Edo];rfl
   refine one_ (i := 2) (N := some 22) (ZL 7 15) rfl rfl (by kernel_rfl) (by decide) (fun K hK => ?_);refine YS Tryz.func67 #[.slice A1 l1.length c1,.int .i64 a2] ?_
   with_reducible refine (Fm.calls am _ _ l1 a2 D _ (ZR (Kd.Eac J.out HB.out)) M.out aq.out).mono ?_
   rintro e aC ⟨au,rfl,av,hb⟩;refine ⟨_,rfl,?_⟩;have o := ZA (Kd.Edq (Kd.Eat (ok' := fun k_ => k_ ≠ m) av (fun k_ hk_ => (Kd.Ebr (ZH d) k_ hk_))) (SZ HB));replace d := ZA (Eaa (ZH d) hb);replace HB := BS HB hb;obtain ⟨X,Y,G⟩ := Kd.Edk o.out
   (first|subst G|(injection G with f1_ f2_ f3_;have aw := f1_.symm;have ax := f3_.symm;clear f1_ f2_ f3_;subst aw;subst ax))
   refine hK.out _ _ ⟨ZC d 0 rfl,ZC d 1 rfl⟩ (fun hHeld => ?_);clear hK K;refine YZ (some 22) ?_;refine one_ (i := 4) (N := some 24) (ZL 7 31) rfl rfl (by kernel_rfl) (by decide) (fun K hK => ?_);refine YS Tryz.func81 #[.slice X D.length Y,.agg #[.int .i64 j,.slice p g.length q]] ?_
   with_reducible refine (GC.calls am _ _ D j _ _ g V _ (WV o) (CV o) (ZR (Kd.Eac y.out HB.out)) z.out ar.out).mono ?_
   rintro e aD ⟨rfl,hb⟩;refine ⟨_,rfl,?_⟩;replace o := ZBV o hb;replace d := ZA (Eaa (ZH d) hb);replace HB := BS HB hb;refine hK.out _ _ ⟨ZC d 0 rfl,ZC d 1 rfl⟩ (fun hHeld => ?_);clear hK K;refine YZ (some 24) ?_;refine Egk (i := 5) (N := some 8) (v := ?_) (a' := ?_) (ZL 7 63) rfl rfl (by kernel_rfl) (fun _ _ _ h => h) (Or.inl ⟨by rfl,?_⟩) ?_ ?_;rotate_left
   ·intro w'
    go_simp
    with_reducible rfl
   rotate_left
   ·simp only [Act.put,zuA,zuB,zuC,Ecw,Edo];rfl
   refine Egk (i := 6) (N := some 9) (v := ?_) (a' := ?_) (ZL 7 127) rfl rfl (by kernel_rfl) (fun _ _ _ h => h) (Or.inl ⟨by rfl,?_⟩) ?_ ?_;rotate_left
   ·intro w'
    go_simp
    with_reducible rfl
   rotate_left
   ·simp only [Act.put,zuA,zuB,zuC,Ecw,Edo];rfl
   refine Ecy (by kernel_rfl) ?_
   try go_wp2
   go_ret2;exact ⟨YR,ZQ HB⟩
end Go.Proofs.YtgnijnlgbelifaaGreat.Q
