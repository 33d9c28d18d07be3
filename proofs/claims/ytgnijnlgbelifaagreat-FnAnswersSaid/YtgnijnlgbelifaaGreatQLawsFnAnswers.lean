import Derived.Test.YtgnijnlgbelifaaGreatQBImplNextLesson
import Derived.Test.YtgnijnlgbelifaaGreatQImplRepeatQuestions
import Derived.Test.YtgnijnlgbelifaaGreatQSpecDrawNextLesson
namespace Go.Proofs.YtgnijnlgbelifaaGreat.Q
open RowKit W.PrintWords W.PrintLast W.PrintMore W.GCall
attribute [local go_sem] Ebi Ebj Ebx Eby Ebb Ebc Ebk Ebl
set_option linter.unusedVariables false
set_option linter.unusedSimpArgs false
mutual
def Ff.j0 : Nat -> List Int -> List (S30) -> List Int -> Bool -> Int -> Int -> List Int -> List (S30) -> Bool -> Option (Bool)
 | 0,_,_,_,_,_,_,_,_,_ => none
 | k + 1,x1,x5,x6,x9,f,g,i,j,d => if d = true then (none) else (if x9 = true then (Ff.l0 k x1 x5 x6 f g i j 0 x5 (x5.length : Int) 0) else (Ff.j5 k x1))
def Ff.j5 : Nat -> List Int -> Option (Bool)
 | 0,_ => none
 | k + 1,x1 => (Fi.f k x1).bind fun d => ((FS.f k d.1 d.2.1 d.2.2.1 d.2.2.2.1 d.2.2.2.2.1 d.2.2.2.2.2).bind fun g => ((FA.f k d.1 d.2.1 d.2.2.1 d.2.2.2.1 d.2.2.2.2.1 d.2.2.2.2.2).bind fun i => (if (g.2 != i.2) = true then (none) else (Ff.j6 k x1 d.2.1 d.2.2.1 d.2.2.2.1 d.2.2.2.2.1 d.2.2.2.2.2 g.2 i.1 (g.1 != i.1)))))
def Ff.j6 : Nat -> List Int -> List (List Int) -> Int -> List (S30) -> List Int -> Int -> Bool -> Bool -> Bool -> Option (Bool)
 | 0,_,_,_,_,_,_,_,_,_ => none
 | k + 1,x1,m,n,i,o,p,q,j,g => if g = true then (none) else (if q = true then ((FT.f k i o).bind fun d => (if d.2.2 = true then (if (wrap64 (100 * d.1)) >= (wrap64 (p * (i.length : Int))) then (if (j != (decide (n < (m.length : Int)))) = true then (none) else (Ff.j7 k x1)) else (if (j != false) = true then (none) else (Ff.j7 k x1))) else (none))) else (Ff.j7 k x1))
def Ff.j7 : Nat -> List Int -> Option (Bool)
 | 0,_ => none
 | k + 1,x1 => (GW.f k x1).bind fun d => ((Lf.f k d.1 d.2.1 d.2.2.1 d.2.2.2).bind fun i => ((GE.f k d.1 d.2.1 d.2.2.1 d.2.2.2).bind fun j => ((GK.f k x1).bind fun g => ((GP.f k g.1 g.2).bind fun m => ((GO.f k g.1 g.2).bind fun n => (if (i.2 == j.2) = true then (if (i.1 == j.1) = true then (if (m.2 == n.2) = true then (some (m.1 == n.1)) else (none)) else (none)) else (none)))))))
def Ff.l0 : Nat -> List Int -> List (S30) -> List Int -> Int -> Int -> List Int -> List (S30) -> Int -> List (S30) -> Int -> Int -> Option (Bool)
 | 0,_,_,_,_,_,_,_,_,_,_,_ => none
 | k + 1,x1,x5,x6,s,p,n,o,q,g,m,d => if d < m then (if 0 <= d then (if d < (g.length : Int) then ((GP.f k ((rd_T30 g d).f0) ((rd_T30 g d).f1)).bind fun j => ((GO.f k ((rd_T30 g d).f0) ((rd_T30 g d).f1)).bind fun i => (if j.2 = true then (if i.2 = true then (if j.1 = i.1 then (if d < (x6.length : Int) then (if (rd x6 d) = i.1 then (Ff.j2 k x1 x5 x6 s p n o q d g m d false) else ((GX.f k n ((rd_T30 g d).f0)).bind fun t => (Ff.j2 k x1 x5 x6 s p n o q d g m d (!t)))) else (none)) else (none)) else (none)) else (none)))) else (none)) else (none)) else (if (wrap64 ((wrap64 (s + p)) + q)) = (x5.length : Int) then (if (o.length : Int) = (wrap64 (p + q)) then (Ff.j3 k x1 n o (decide ((n.length : Int) > (o.length : Int)))) else (none)) else (none))
def Ff.j2 : Nat -> List Int -> List (S30) -> List Int -> Int -> Int -> List Int -> List (S30) -> Int -> Int -> List (S30) -> Int -> Int -> Bool -> Option (Bool)
 | 0,_,_,_,_,_,_,_,_,_,_,_,_,_ => none
 | k + 1,x1,x5,x6,m,n,o,p,q,i,d,f,g,j => if j = true then (none) else (if 0 <= i then (if i < (x6.length : Int) then (if (rd x6 i) < 0 then (Ff.l0 k x1 x5 x6 m n o p (wrap64 (q + 1)) d f (wrap64 (g + 1))) else (Ff.l0 k x1 x5 x6 m n o p q d f (wrap64 (g + 1)))) else (none)) else (none))
def Ff.j3 : Nat -> List Int -> List Int -> List (S30) -> Bool -> Option (Bool)
 | 0,_,_,_,_ => none
 | k + 1,x1,g,f,d => if d = true then (none) else (Ff.l1 k x1 g f (f.length : Int) 0)
def Ff.l1 : Nat -> List Int -> List Int -> List (S30) -> Int -> Int -> Option (Bool)
 | 0,_,_,_,_,_ => none
 | k + 1,x1,m,g,i,d => if d < i then (if 0 <= d then (if d < (g.length : Int) then ((GX.f k m ((rd_T30 g d).f0)).bind fun j => (if j = true then (Ff.l1 k x1 m g i (wrap64 (d + 1))) else (none))) else (none)) else (none)) else (Ff.j5 k x1)
end
def Ff.f (k : Nat) (l0 : List Int) (l1 : List Int) : Option (Bool) := (Ln.f l0 l1).bind fun p => (if p = true then (some true) else ((GY.f k l0).bind fun d => ((FT.f k d.1 d.2).bind fun g => ((Lh.f k d.1 d.2).bind fun i => ((FY.f k d.1 d.2).bind fun j => ((GA.f k d.1 d.2).bind fun m => ((Fg.f k d.1 d.2).bind fun n => ((Fh.f k d.1 d.2).bind fun o => (if (g.2.2 != i.2.2) = true then (none) else (if g.1 = i.1 then (if g.2.1 = i.2.1 then (if (j.2 != m.2) = true then (none) else ((FQ.f k j.1 m.1).bind fun q => (if q = true then (if (n.2 != o.2) = true then (none) else ((FJ.f k n.1 o.1).bind fun s => (if s = true then (if (j.2 != g.2.2) = true then (none) else (Ff.j0 k l1 d.1 d.2 g.2.2 i.1 i.2.1 m.1 o.1 (n.2 != g.2.2))) else (none)))) else (none)))) else (none)) else (none)))))))))))
set_option maxHeartbeats 40000000 in
set_option maxRecDepth 100000 in
theorem Ff.calls (k : Nat) (A0 : Option Addr) (c0 : Nat) (l0 : List Int) (A1 : Option Addr) (c1 : Nat) (l1 : List Int) (r : Bool) (w : World) (eH : Kd.C (Kd.int .u8) w A0 l0.length l0) (eI : l0.length <= c0) (eJ : Kd.C (Kd.int .u8) w A1 l1.length l1) (eK : l1.length <= c1) (h : Ff.f k l0 l1 = some r) :
  Calls Tryz.prog 5 #[.slice A0 l0.length c0,.slice A1 l1.length c1] w fun e w' => e = .returned (.bool r) ∧ Below w.heap.size w w' := by
 have fs := Tryz.underlying30;have dN := ZA eH;have dO := ZA eI;clear eH eI;have cB := ZA eJ;have cC := ZA eK;clear eJ eK;have HB := ZA (Below.refl w.heap.size w);have H := h;clear h;unfold Ff.f at H;replace H := YJ H;obtain ⟨dP,A3,H⟩ := H;by_cases c4 : dP = true
 ·subst c4;rw [if_pos rfl] at H
  as_aux_lemma =>
   obtain rfl := Option.some.inj H;go_enter Tryz.func5,Tryz.ntmps5
   go_wp2_with (first|((with_reducible refine YG 6 ?_);refine YC (some 58) Tryz.func6 #[.slice A0 l0.length c0,.slice A1 l1.length c1] (Ln.calls _ _ l0 _ _ l1 true _ (ZR dN.out) dO.out (ZR cB.out) cC.out A3.out) ?_;rintro e w' ⟨rfl,⟨nd,rfl⟩⟩;refine ⟨_,rfl,?_⟩))
   go_ret;exact ⟨YR,ZQ HB⟩
 replace c4 := Bool.eq_false_iff.mpr c4;subst c4;rw [if_neg (show ¬ (false = true) by decide)] at H;replace H := YJ H;obtain ⟨⟨i,q⟩,A5,H⟩ := H;try dsimp only at H
 replace H := YJ H;obtain ⟨⟨b6,b7,aK⟩,A6,H⟩ := H;try dsimp only at H
 replace H := YJ H;obtain ⟨⟨aW,aM,bo⟩,A7,H⟩ := H;try dsimp only at H
 replace H := YJ H;obtain ⟨⟨cD,aQ⟩,A8,H⟩ := H;try dsimp only at H
 replace H := YJ H;obtain ⟨⟨af,bp⟩,A9,H⟩ := H;try dsimp only at H
 replace H := YJ H;obtain ⟨⟨cE,bi⟩,ft,H⟩ := H;try dsimp only at H
 replace H := YJ H;obtain ⟨⟨y,bq⟩,fu,H⟩ := H;try dsimp only at H
 have b8 := ZA H;clear H;go_enter Tryz.func5,Tryz.ntmps5
 go_upto_region 10 with (first|((with_reducible refine YG 6 ?_);refine YC (some 58) Tryz.func6 #[.slice A0 l0.length c0,.slice A1 l1.length c1] (Ln.calls _ _ l0 _ _ l1 false _ (ZR dN.out) dO.out (ZR cB.out) cC.out A3.out) ?_;rintro e w' ⟨rfl,⟨nd,rfl⟩⟩;refine ⟨_,rfl,?_⟩)|((with_reducible refine YG 45 ?_);refine YC (some 61) Tryz.func45 #[.slice A0 l0.length c0] (GY.calls k _ _ l0 i q _ (ZR dN.out) dO.out A5.out) ?_;rintro e ga ⟨fv,dQ,rfl,aD,cF,hb⟩;refine ⟨_,rfl,?_⟩;have s := ZA (Kd.Ecq (Kd.Eah (ok' := fun k_ => some k_ ≠ (dQ : Value).ownBlock) (Kd.S_N (Kd.Ecn aD)) (fun k_ hk_ => hk_.1)) (SZ HB));have m := ZA (Kd.Eas cF (SZ HB));replace HB := BS HB hb;obtain ⟨ae,X,dR⟩ := Kd.Ebz s.out;subst dR;obtain ⟨Y,Z,dS⟩ := Kd.Eaj m.out;subst dS)|((with_reducible refine YG 46 ?_);refine YC (some 67) Tryz.func46 #[.slice ae i.length X,.slice Y q.length Z] (FT.calls k _ _ i _ _ q b6 b7 aK _ (WN s) (CN s) (WR m) (CR m) A6.out) ?_;rintro e gb ⟨rfl,hb⟩;refine ⟨_,rfl,?_⟩;replace s := ZBN s hb;replace m := ZBR m hb;replace HB := BS HB hb)|((with_reducible refine YG 47 ?_);refine YC (some 74) Tryz.func47 #[.slice ae i.length X,.slice Y q.length Z] (Lh.calls k _ _ i _ _ q aW aM bo _ (WN s) (CN s) (WR m) (CR m) A7.out) ?_;rintro e gc ⟨rfl,hb⟩;refine ⟨_,rfl,?_⟩;replace s := ZBN s hb;replace m := ZBR m hb;replace HB := BS HB hb)|((with_reducible refine YG 48 ?_);refine YC (some 81) Tryz.func48 #[.slice ae i.length X,.slice Y q.length Z] (FY.calls k _ _ i _ _ q cD aQ _ (WN s) (CN s) (WR m) (CR m) A8.out) ?_;rintro e gd ⟨b9,rfl,aD,hb⟩;refine ⟨_,rfl,?_⟩;replace s := ZA (Kd.N_elder' (ZKN s) (Kd.Eap aD) hb);have ad := ZA (Kd.Eas (Kd.R_new' aD (Kd.R_lt (ZK m))) (SZ HB));replace m := ZA (Kd.R_elder' (ZK m) (Kd.Eap aD) hb);replace HB := BS HB hb)|((with_reducible refine YG 49 ?_);refine YC (some 87) Tryz.func49 #[.slice ae i.length X,.slice Y q.length Z] (GA.calls k _ _ i _ _ q af bp _ (WN s) (CN s) (WR m) (CR m) A9.out) ?_;rintro e ge ⟨br,rfl,aD,hb⟩;refine ⟨_,rfl,?_⟩;have ax := ZA (Kd.Edn (Kd.Eax (ok' := fun k_ => some k_ ≠ (.slice ae i.length X : Value).ownBlock ∧ some k_ ≠ (.slice Y q.length Z : Value).ownBlock ∧ some k_ ≠ (b9 : Value).ownBlock) aD (fun k_ hk_ => ⟨(Kd.fresh' (Kd.N_lt (ZKN s)) k_ hk_),(Kd.fresh' (Kd.R_lt (ZK m)) k_ hk_),(Kd.fresh' (Kd.R_lt (ZK ad)) k_ hk_)⟩)) (SZ HB));replace s := ZBN s hb;replace m := ZBR m hb;replace ad := ZBR ad hb;replace HB := BS HB hb)|((with_reducible refine YG 50 ?_);refine YC (some 93) Tryz.func50 #[.slice ae i.length X,.slice Y q.length Z] (Fg.calls k _ _ i _ _ q cE bi _ (WN s) (CN s) (WR m) (CR m) ft.out) ?_;rintro e gf ⟨dT,rfl,aD,hb⟩;refine ⟨_,rfl,?_⟩;replace ax := ZA (Kd.V_elder' (ZKV ax) (Kd.Eg aD) hb);have aO := ZA (Kd.Ecq (Kd.Eah (ok' := fun k_ => some k_ ≠ (.slice ae i.length X : Value).ownBlock ∧ some k_ ≠ (.slice Y q.length Z : Value).ownBlock ∧ some k_ ≠ (b9 : Value).ownBlock) (Kd.S_N (Kd.Ecn aD)) (fun k_ hk_ => ⟨(Kd.fresh' (Kd.N_lt (ZKN s)) k_ hk_.2.1),(Kd.fresh' (Kd.R_lt (ZK m)) k_ hk_.2.1),(Kd.fresh' (Kd.R_lt (ZK ad)) k_ hk_.2.1)⟩)) (SZ HB));replace s := ZA (Kd.N_elder' (ZKN s) (Kd.Eg aD) hb);replace m := ZBR m hb;replace ad := ZBR ad hb;replace HB := BS HB hb)|((with_reducible refine YG 51 ?_);refine YC (some 99) Tryz.func51 #[.slice ae i.length X,.slice Y q.length Z] (Fh.calls k _ _ i _ _ q y bq _ (WN s) (CN s) (WR m) (CR m) fu.out) ?_;rintro e gg ⟨ar,rfl,aD,hb⟩;refine ⟨_,rfl,?_⟩;replace ax := ZA (Kd.V_elder' (ZKV ax) (Kd.Eg aD) hb);have a8 := ZA (Kd.Ecq (Kd.Eah (ok' := fun k_ => some k_ ≠ (.slice ae i.length X : Value).ownBlock ∧ some k_ ≠ (.slice Y q.length Z : Value).ownBlock ∧ some k_ ≠ (b9 : Value).ownBlock ∧ some k_ ≠ (dT : Value).ownBlock) (Kd.S_N (Kd.Ecn aD)) (fun k_ hk_ => ⟨(Kd.fresh' (Kd.N_lt (ZKN s)) k_ hk_.2.1),(Kd.fresh' (Kd.R_lt (ZK m)) k_ hk_.2.1),(Kd.fresh' (Kd.R_lt (ZK ad)) k_ hk_.2.1),(Kd.fresh' (Kd.N_lt (ZKN aO)) k_ hk_.2.1)⟩)) (SZ HB));replace s := ZA (Kd.N_elder' (ZKN s) (Kd.Eg aD) hb);replace m := ZBR m hb;replace ad := ZBR ad hb;replace aO := ZA (Kd.N_elder' (ZKN aO) (Kd.Eg aD) hb);replace HB := BS HB hb))
 (try simp only [Act.put,zuA,zuB,zuC])
 go_cut [146] from 43 to 146 (fun dU wc => ∃ (kq : Nat) (aE : Bool),dU = .bool aE ∧ Aside0 (Ff.j0 kq l1 i q aK aW aM af y aE = some r) ∧ Aside0 (kq <= k) ∧ Aside0 (Kd.N k30 30 wc w.heap.size (fun k_ => some k_ ≠ ((.slice Y q.length Z) : Value).ownBlock ∧ some k_ ≠ (ar : Value).ownBlock) (.slice ae i.length X) i) ∧ Aside0 (Kd.R (Kd.int .i64) 3 wc w.heap.size (fun _ => True) (.slice Y q.length Z) q) ∧ Aside0 (Kd.V (Kd.int .i64) 3 wc w.heap.size (fun k_ => some k_ ≠ ((.slice ae i.length X) : Value).ownBlock ∧ some k_ ≠ ((.slice Y q.length Z) : Value).ownBlock ∧ some k_ ≠ (ar : Value).ownBlock) br af) ∧ Aside0 (Kd.N k30 30 wc w.heap.size (fun k_ => some k_ ≠ ((.slice ae i.length X) : Value).ownBlock ∧ some k_ ≠ ((.slice Y q.length Z) : Value).ownBlock) ar y) ∧ Aside0 (Below w.heap.size w wc))
 case first =>
  have H := b8.out;clear b8;by_cases cu : (aK != bo) = true
  ·rw [if_pos cu] at H;exact absurd H (by simp)
  rw [if_neg cu] at H;have bY : (aK != bo) = false := by simpa using cu
  (try (have cG : decide (aK = bo) = true := by simpa using cu))
  (try (have eL : (aK == bo) = true := by simpa using cu))
  clear cu
  (first|rw [bY]|rw [cG]|(simp only [Eay,Eba];rw [bY])|skip)
  replace H := YM H;obtain ⟨dV,H⟩ := H;have eM : (b6 == aW) = true := beq_iff_eq.mpr dV;have eN : (b6 != aW) = false := bne_eq_false_iff_eq.mpr dV;clear dV;replace H := YM H;obtain ⟨dW,H⟩ := H;have eO : (b7 == aM) = true := beq_iff_eq.mpr dW;have eP : (b7 != aM) = false := bne_eq_false_iff_eq.mpr dW;clear dW;by_cases cv : (aQ != bp) = true
  ·rw [if_pos cv] at H;exact absurd H (by simp)
  rw [if_neg cv] at H;have eQ : (aQ != bp) = false := by simpa using cv
  (try (have eR : decide (aQ = bp) = true := by simpa using cv))
  (try (have eS : (aQ == bp) = true := by simpa using cv))
  clear cv;replace H := YJ H;obtain ⟨fw,fx,H⟩ := H;replace H := YF H;rcases H with ⟨rfl,H⟩|⟨rfl,H⟩;rotate_left
  ·exact absurd H (by simp)
  by_cases cw : (bi != bq) = true
  ·rw [if_pos cw] at H;exact absurd H (by simp)
  rw [if_neg cw] at H;have eT : (bi != bq) = false := by simpa using cw
  (try (have eU : decide (bi = bq) = true := by simpa using cw))
  (try (have eV : (bi == bq) = true := by simpa using cw))
  clear cw;replace H := YJ H;obtain ⟨fy,fz,H⟩ := H;replace H := YF H;rcases H with ⟨rfl,H⟩|⟨rfl,H⟩;rotate_left
  ·exact absurd H (by simp)
  by_cases cx : (aQ != aK) = true
  ·rw [if_pos cx] at H;exact absurd H (by simp)
  rw [if_neg cx] at H;have eW : (aQ != aK) = false := by simpa using cx
  (try (have eX : decide (aQ = aK) = true := by simpa using cx))
  (try (have eY : (aQ == aK) = true := by simpa using cx))
  clear cx
  as_aux_lemma =>
   have H' := ZA H;clear H;obtain ⟨fA,fB,dX⟩ := Kd.Eaj ad.out;subst dX;obtain ⟨fC,fD,dY⟩ := Kd.Ecz ax.out;subst dY
   go_wp2_with (first|(go_at_call 10;(with_reducible refine (FQ.calls k _ _ cD _ _ af true _ (WR ad) (CR ad) (WV ax) (CV ax) fx.out).mono ?_);rintro e w' ⟨rfl,⟨nd,rfl⟩⟩;obtain ⟨fE,fF,dZ⟩ := Kd.Ebz aO.out;subst dZ;obtain ⟨fG,fH,d0⟩ := Kd.Ebz a8.out;subst d0)|(go_at_call 21;(with_reducible refine (FJ.calls k _ _ cE _ _ y true _ (WN aO) (CN aO) (WN a8) (CN a8) fz.out).mono ?_);rintro e w' ⟨rfl,⟨nd,rfl⟩⟩))
   go_meet
   case rel => exact ⟨_,((bi != aK)),ZG,H',⟨YO⟩,⟨ZKN ⟨Kd.Eah s.out (fun _ hk => ⟨hk.1.1.1,hk.2⟩)⟩⟩,⟨ZK ⟨Kd.Eak m.out (fun _ hk => trivial)⟩⟩,⟨ZKV ⟨Kd.Eax ax.out (fun _ hk => ⟨hk.1.1.1,⟨hk.1.1.2.1,hk.2⟩⟩)⟩⟩,⟨ZKN ⟨Kd.Eah a8.out (fun _ hk => ⟨hk.1,hk.2.1⟩)⟩⟩,⟨ZQ HB⟩⟩
 case rest =>
  clear b8;obtain ⟨kq,aE,rfl,HA,am,an,ag,t,E,HB⟩ := hcut;cases kq with
  | zero => exact absurd HA.out (by simp [Ff.j0])
  | succ ca =>
   have H := HA.out;clear HA;simp only [Ff.j0] at H;by_cases dk : aE = true
   ·subst dk;rw [if_pos rfl] at H;exact absurd H (by simp)
   replace dk := Bool.eq_false_iff.mpr dk;subst dk;rw [if_neg (show ¬ (false = true) by decide)] at H;have cb := ZA H;clear H
   go_upto_if 147 with (fail)
   go_cut [] from 147 to 147 (fun wc => ∃ (kq : Nat),Aside0 (Ff.j5 kq l1 = some r) ∧ Aside0 (kq <= ca) ∧ Aside0 (Below w.heap.size w wc))
   case first =>
    have H := cb.out;clear cb;replace H := YF H;rcases H with ⟨rfl,H⟩|⟨rfl,H⟩;rotate_left
    ·as_aux_lemma =>
      have H' := ZA H;clear H;go_wp2;go_meet
      case rel => exact ⟨_,H',⟨by have := am.out;first|omega|exact Nat.le_refl _⟩,⟨ZQ HB⟩⟩
    have H' := ZA H;clear H;go_wp2
    go_loopg [21,150] ca (fun kq fI d1 w' => ∃ (ai : Int) (d : Int),fI = .int .i64 ai ∧ d1 = .int .i64 d ∧ Aside0 (Ff.l0 kq l1 i q aW aM af y ai i (i.length : Int) d = some r) ∧ Aside0 (kq <= ca) ∧ Aside0 (Kd.N k30 30 w' w.heap.size (fun k_ => some k_ ≠ ((.slice Y q.length Z) : Value).ownBlock ∧ some k_ ≠ (ar : Value).ownBlock) (.slice ae i.length X) i) ∧ Aside0 (Kd.R (Kd.int .i64) 3 w' w.heap.size (fun _ => True) (.slice Y q.length Z) q) ∧ Aside0 (Kd.V (Kd.int .i64) 3 w' w.heap.size (fun k_ => some k_ ≠ ((.slice ae i.length X) : Value).ownBlock ∧ some k_ ≠ ((.slice Y q.length Z) : Value).ownBlock ∧ some k_ ≠ (ar : Value).ownBlock ∧ some k_ ≠ ((.slice ae i.length X) : Value).ownBlock) br af) ∧ Aside0 (Kd.N k30 30 w' w.heap.size (fun k_ => some k_ ≠ ((.slice ae i.length X) : Value).ownBlock ∧ some k_ ≠ ((.slice Y q.length Z) : Value).ownBlock ∧ some k_ ≠ ((.slice ae i.length X) : Value).ownBlock) ar y) ∧ Aside0 (Kd.N k30 30 w' w.heap.size (fun k_ => some k_ ≠ ((.slice Y q.length Z) : Value).ownBlock ∧ some k_ ≠ (ar : Value).ownBlock) (.slice ae i.length X) i) ∧ Aside0 (Below w.heap.size w w'))
    case atStart => exact ⟨(0),(0),ZG,ZG,H',⟨Nat.le_refl _⟩,⟨ZKN an⟩,⟨ZK ag⟩,⟨ZKV ⟨Kd.Eax t.out (fun _ hk => ⟨hk.1,⟨hk.2.1,⟨hk.2.2,hk.1⟩⟩⟩)⟩⟩,⟨ZKN ⟨Kd.Eah E.out (fun _ hk => ⟨hk.1,⟨hk.2,hk.1⟩⟩)⟩⟩,⟨ZKN an⟩,⟨ZQ HB⟩⟩
    case round =>
     clear H';obtain ⟨ai,d,rfl,rfl,HA,bB,an,ag,t,E,z,HB⟩ := hrel;cases gk with
     | zero => exact absurd HA.out (by simp [Ff.l0])
     | succ k2 =>
      have H := HA.out;clear HA;simp only [Ff.l0] at H;replace H := YI H;rcases H with ⟨aX,H⟩|⟨aX,H⟩;rotate_left
      ·(first|rw [aX]|rw [c39b1]|(simp only [Eay,Eba];rw [aX])|skip)
       have cc := ZA H;clear H
       go_upto_region 24 with (fail)
       go_cut [221] from 151 to 221 (fun d2 wc => ∃ (kq : Nat) (aF : Bool),d2 = .bool aF ∧ Aside0 (Ff.j3 kq l1 af y aF = some r) ∧ Aside0 (kq <= k2) ∧ Aside0 (Kd.V (Kd.int .i64) 3 wc w.heap.size (fun k_ => some k_ ≠ (ar : Value).ownBlock) br af) ∧ Aside0 (Kd.N k30 30 wc w.heap.size (fun _ => True) ar y) ∧ Aside0 (Below w.heap.size w wc))
       case first =>
        have H := cc.out;clear cc;replace H := YM H;obtain ⟨d3,H⟩ := H;have bZ : ((wrap64 ((wrap64 (aW + aM)) + ai)) == (i.length : Int)) = true := beq_iff_eq.mpr d3;have cH : ((wrap64 ((wrap64 (aW + aM)) + ai)) != (i.length : Int)) = false := bne_eq_false_iff_eq.mpr d3;clear d3
        (first|rw [bZ]|rw [cH]|(simp only [Eay,Eba];rw [bZ])|skip)
        replace H := YM H;obtain ⟨d4,H⟩ := H;have eZ : ((y.length : Int) == (wrap64 (aM + ai))) = true := beq_iff_eq.mpr d4;have e0 : ((y.length : Int) != (wrap64 (aM + ai))) = false := bne_eq_false_iff_eq.mpr d4;clear d4
        as_aux_lemma =>
         have H' := ZA H;clear H;obtain ⟨fJ,fK,d5⟩ := Kd.Ebz E.out;subst d5;obtain ⟨fL,fM,d6⟩ := Kd.Ecz t.out;subst d6;go_wp2;go_meet
         case rel => exact ⟨_,(decide ((af.length : Int) > (y.length : Int))),ZG,H',⟨by have := am.out;have := bB.out;first|omega|exact Nat.le_refl _⟩,⟨ZKV ⟨Kd.Eax t.out (fun _ hk => hk.2.2.1)⟩⟩,⟨ZKN ⟨Kd.Eah E.out (fun _ hk => trivial)⟩⟩,⟨ZQ HB⟩⟩
       case rest =>
        clear cc;obtain ⟨kq,aF,rfl,HA,cd,t,E,HB⟩ := hcut;cases kq with
        | zero => exact absurd HA.out (by simp [Ff.j3])
        | succ cI =>
         have H := HA.out;clear HA;simp only [Ff.j3] at H;by_cases dl : aF = true
         ·subst dl;rw [if_pos rfl] at H;exact absurd H (by simp)
         replace dl := Bool.eq_false_iff.mpr dl;subst dl;rw [if_neg (show ¬ (false = true) by decide)] at H;have H' := ZA H;clear H;obtain ⟨cJ,ce,d7⟩ := Kd.Ebz E.out;subst d7;go_wp2
         go_loopg [224] cI (fun kq d8 w' => ∃ (v : Int),d8 = .int .i64 v ∧ Aside0 (Ff.l1 kq l1 af y (y.length : Int) v = some r) ∧ Aside0 (kq <= cI) ∧ Aside0 (Kd.V (Kd.int .i64) 3 w' w.heap.size (fun k_ => some k_ ≠ ((.slice cJ y.length ce) : Value).ownBlock) br af) ∧ Aside0 (Kd.N k30 30 w' w.heap.size (fun _ => True) (.slice cJ y.length ce) y) ∧ Aside0 (Below w.heap.size w w'))
         case atStart => exact ⟨(0),ZG,H',⟨Nat.le_refl _⟩,⟨ZKV t⟩,⟨ZKN E⟩,⟨ZQ HB⟩⟩
         case round =>
          clear H';obtain ⟨v,rfl,HA,d9,t,au,HB⟩ := hrel;cases gk with
          | zero => exact absurd HA.out (by simp [Ff.l1])
          | succ k4 =>
           have H := HA.out;clear HA;simp only [Ff.l1] at H;replace H := YI H;rcases H with ⟨cK,H⟩|⟨cK,H⟩;rotate_left
           ·as_aux_lemma =>
             have H' := ZA H;clear H;go_wp2;go_meet
             case rel => exact ⟨_,H',⟨by have := am.out;have := bB.out;have := cd.out;have := d9.out;first|omega|exact Nat.le_refl _⟩,⟨ZQ HB⟩⟩
           replace H := YN H;obtain ⟨e1,H⟩ := H;replace H := YN H;obtain ⟨e2,H⟩ := H;replace H := YJ H;obtain ⟨fN,fO,H⟩ := H;replace H := YF H;rcases H with ⟨rfl,H⟩|⟨rfl,H⟩;rotate_left
           ·exact absurd H (by simp)
           as_aux_lemma =>
            have H' := ZA H;clear H;have bC : 0 <= (v : Int) := ZD;have bD : v < (y.length : Int) := ZD;obtain ⟨cL,a0,a1,ea,dm,bE,a9,ba⟩ := at_T30 (Kd.N_reads' au.out).2.2 v bC bD;cases ea;obtain ⟨e3,cf,cg,bs⟩ := Kd.Ejf au.out z30 v bC (by first|exact bD|exact ZD|(have e_ := (Kd.N_reads' au.out).1;omega));obtain ⟨dn,dp,rfl,aR,aS⟩ := k30_openF cg;have aG := bs 1 _ rfl;rw [Edm _ _ 1 (by omega)] at aG;replace aG := Option.some.inj (aG.symm.trans bE);injection aG with hva_ hvn_ hvc_
            rw [hva_] at aS;rw [hvc_] at aR;have bb := ZA (show Kd.V (Kd.int .i64) 3 _ w.heap.size _ _ ((rd_T30 y v).f1) from Kd.V_mk aR aS);clear hva_ hvn_ hvc_ aS aR;clear bs cf;have aT := ZA ba;have dq := ZA a9;clear ba a9;replace bC := eq_true bC;replace bD := eq_true bD
            go_wp2_with (first|((with_reducible refine Ead (N := 29) rfl ?_);(try (refine Eau (by rfl) ?_;dsimp only));refine ZE 29 #[.int .i64 0,.slice none 0 0] 30 ?_;intro aa hg e4 hbox hb;replace t := ZA (Kd.Edd (Kd.Ede (ZKV t) aa (Nat.le_of_eq hg.symm)) hb);replace au := ZA (Kd.Ece (Kd.Eda (ZKN au) aa (Nat.le_of_eq hg.symm)) hb);replace bb := ZA (Kd.Edd (Kd.Ede (ZKV bb) aa (Nat.le_of_eq hg.symm)) hb);replace aT := ZA (Kd.Eab (by repeat (first|(with_reducible exact aT.out)|(with_reducible refine Kd.Ecf ?_ _)|(with_reducible refine Kd.Ecg ?_ _)|(with_reducible refine Kd.Ecy ?_)|exact aT.out)) hb);have bc := ZA (hbox);have e5 := YQ hg HB;have e6 := YQ hg HB;replace HB := BS HB hb;clear hb hbox hg;have dr : e4.cell? ⟨aa,0,none⟩ = some (.int .i64 0) := ZC bc 0 rfl;have ds : e4.cell? ⟨aa,1,none⟩ = some (.slice none 0 0) := ZC bc 1 rfl;have du := Ea bc.out 0;have dv := Ea bc.out 1;obtain ⟨eb,cM,ec⟩ := Kd.Ecz t.out;subst ec)|((with_reducible refine YG 16 ?_);refine YC (some 231) Tryz.func16 #[.slice eb af.length cM,.int .i64 ((rd_T30 y v).f0)] (GX.calls k4 _ _ af ((rd_T30 y v).f0) true _ ?side1 (CV t) fO.out) ?_;(case side1 => refine (Kd.V_reads' (e := 3) (base := w.heap.size) (ok := fun k_ => (some k_ ≠ (.slice (some cL) y.length ce : Value).ownBlock ∧ k_ ≠ aa)) (n := af.length) (c := cM) ?_).2.2;exact (ZKV ⟨(Kd.Eax (Kd.Edp (p := ⟨aa,1,none⟩) (Kd.Edp (p := ⟨aa,0,none⟩) (Kd.Eax t.out (fun k_ hk => (⟨hk,hk.2⟩ : _ ∧ k_ ≠ aa))) (fun _ hk => hk.2) (.int .i64 ((rd_T30 y v).f0))) (fun _ hk => hk.2) (.slice a0 ((rd_T30 y v).f1).length a1)) (fun _ h_ => h_.1))⟩));rintro e w' ⟨rfl,⟨nd,rfl⟩⟩;refine ⟨_,rfl,?_⟩))
            go_roundg k4
            case measure => have := am.out;have := bB.out;have := cd.out;have := d9.out;omega
            case rel => exact ⟨(wrap64 (v + 1)),ZG,H',⟨by have := am.out;have := bB.out;have := cd.out;have := d9.out;omega⟩,⟨ZKV ⟨Kd.Eax (Kd.Edp (p := ⟨aa,1,none⟩) (Kd.Edp (p := ⟨aa,0,none⟩) (Kd.Eax t.out (fun k_ hk => (⟨hk,hk.2⟩ : _ ∧ k_ ≠ aa))) (fun _ hk => hk.2) (.int .i64 ((rd_T30 y v).f0))) (fun _ hk => hk.2) (.slice a0 ((rd_T30 y v).f1).length a1)) (fun _ hk => hk.1.1)⟩⟩,⟨ZKN ⟨Kd.Eah (Kd.Edx (p := ⟨aa,1,none⟩) (Kd.Edx (p := ⟨aa,0,none⟩) (Kd.Eah au.out (fun k_ hk => (⟨hk,hk.2⟩ : _ ∧ k_ ≠ aa))) (fun _ hk => hk.2) (.int .i64 ((rd_T30 y v).f0))) (fun _ hk => hk.2) (.slice a0 ((rd_T30 y v).f1).length a1)) (fun _ hk => trivial)⟩⟩,⟨ZQ HB⟩⟩
      (first|rw [aX]|rw [c39b1]|(simp only [Eay,Eba];rw [aX])|skip)
      replace H := YN H;obtain ⟨e7,H⟩ := H;replace H := YN H;obtain ⟨e8,H⟩ := H;replace H := YJ H;obtain ⟨⟨ch,ed⟩,fP,H⟩ := H;try dsimp only at H
      replace H := YJ H;obtain ⟨⟨aY,ee⟩,fQ,H⟩ := H;try dsimp only at H
      have ci := ZA H;clear H;have bF : 0 <= (d : Int) := ZD;have bG : d < (i.length : Int) := ZD;obtain ⟨aP,D,G,ef,dw,bH,bd,bf⟩ := at_T30 (Kd.N_reads' z.out).2.2 d bF bG;cases ef;obtain ⟨e9,cj,ck,bt⟩ := Kd.Ejf z.out z30 d bF (by first|exact bG|exact ZD|(have e_ := (Kd.N_reads' z.out).1;omega));obtain ⟨dx,dy,rfl,aU,aV⟩ := k30_openF ck;have aH := bt 1 _ rfl;rw [Edm _ _ 1 (by omega)] at aH;replace aH := Option.some.inj (aH.symm.trans bH);injection aH with hva_ hvn_ hvc_
      rw [hva_] at aV;rw [hvc_] at aU;have ab := ZA (show Kd.V (Kd.int .i64) 3 _ w.heap.size _ _ ((rd_T30 i d).f1) from Kd.V_mk aU aV);clear hva_ hvn_ hvc_ aV aU;clear bt cj;have u := ZA bf;have bg := ZA bd;clear bf bd;replace bF := eq_true bF;replace bG := eq_true bG
      go_upto_region 19 with (first|((with_reducible refine Ead (N := 23) rfl ?_);(try (refine Eau (by rfl) ?_;dsimp only));refine ZE 23 #[.int .i64 0,.slice none 0 0] 30 ?_;intro j hg fa hbox hb;replace an := ZA (Kd.Ece (Kd.Eda (ZKN an) j (Nat.le_of_eq hg.symm)) hb);replace ag := ZBR ag hb;replace t := ZA (Kd.Edd (Kd.Ede (ZKV t) j (Nat.le_of_eq hg.symm)) hb);replace E := ZA (Kd.Ece (Kd.Eda (ZKN E) j (Nat.le_of_eq hg.symm)) hb);replace z := ZA (Kd.Ece (Kd.Eda (ZKN z) j (Nat.le_of_eq hg.symm)) hb);replace ab := ZA (Kd.Edd (Kd.Ede (ZKV ab) j (Nat.le_of_eq hg.symm)) hb);replace u := ZA (Kd.Eab (by repeat (first|(with_reducible exact u.out)|(with_reducible refine Kd.Ecf ?_ _)|(with_reducible refine Kd.Ecg ?_ _)|(with_reducible refine Kd.Ecy ?_)|exact u.out)) hb);have I := ZA (hbox);have fb := YQ hg HB;have fc := YQ hg HB;replace HB := BS HB hb;clear hb hbox hg;have dz : fa.cell? ⟨j,0,none⟩ = some (.int .i64 0) := ZC I 0 rfl;have dA : fa.cell? ⟨j,1,none⟩ = some (.slice none 0 0) := ZC I 1 rfl;have dB := Ea I.out 0;have dC := Ea I.out 1)|((with_reducible refine Eaz (f := 12) rfl ?_);refine Ed (some 157) rfl rfl Tryz.func12 (by kernel_rfl) rfl #[.agg #[.int .i64 ((rd_T30 i d).f0),.slice D ((rd_T30 i d).f1).length G]] rfl (by (try simp only [List.map_toArray,List.map_cons,List.map_nil]);first|done|rfl|(simp only [List.length_drop,List.length_take];rfl)) ?_;(with_reducible refine (GP.calls k2 ((rd_T30 i d).f0) _ _ ((rd_T30 i d).f1) ch ed _ ?side1 bg.out fP.out).mono ?_);(case side1 => repeat (first|exact ((Kd.V_reads' (ZKV ⟨(Kd.Eax (Kd.Edp (p := ⟨j,1,none⟩) (Kd.Edp (p := ⟨j,0,none⟩) (Kd.Eax ab.out (fun k_ hk => (⟨hk,hk.2⟩ : _ ∧ k_ ≠ j))) (fun _ hk => hk.2) (.int .i64 ((rd_T30 i d).f0))) (fun _ hk => hk.2) (.slice D ((rd_T30 i d).f1).length G)) (fun _ h_ => h_.1))⟩)).2.2)|(with_reducible refine Kd.Ecf ?_ _)|(with_reducible refine Kd.Ecg ?_ _)|(with_reducible refine Kd.Ecy ?_)));rintro e fd ⟨rfl,hb⟩;refine ⟨_,rfl,?_⟩;replace an := ZA (Kd.Ece (ZKN ⟨(Kd.Eah (Kd.Edx (p := ⟨j,1,none⟩) (Kd.Edx (p := ⟨j,0,none⟩) (Kd.Eah an.out (fun k_ hk => (⟨hk,hk.2⟩ : _ ∧ k_ ≠ j))) (fun _ hk => hk.2) (.int .i64 ((rd_T30 i d).f0))) (fun _ hk => hk.2) (.slice D ((rd_T30 i d).f1).length G)) (fun _ h_ => h_.1))⟩) hb);replace ag := ZA (Kd.Eem (ZK ⟨(Kd.Eak (Kd.Ebs (p := ⟨j,1,none⟩) (Kd.Ebs (p := ⟨j,0,none⟩) (Kd.Eaw ag.out I.out (by decide)) (fun _ hk => hk.2) (.int .i64 ((rd_T30 i d).f0))) (fun _ hk => hk.2) (.slice D ((rd_T30 i d).f1).length G)) (fun _ h_ => h_.1))⟩) hb);replace t := ZA (Kd.Edd (ZKV ⟨(Kd.Eax (Kd.Edp (p := ⟨j,1,none⟩) (Kd.Edp (p := ⟨j,0,none⟩) (Kd.Eax t.out (fun k_ hk => (⟨hk,hk.2⟩ : _ ∧ k_ ≠ j))) (fun _ hk => hk.2) (.int .i64 ((rd_T30 i d).f0))) (fun _ hk => hk.2) (.slice D ((rd_T30 i d).f1).length G)) (fun _ h_ => h_.1))⟩) hb);replace E := ZA (Kd.Ece (ZKN ⟨(Kd.Eah (Kd.Edx (p := ⟨j,1,none⟩) (Kd.Edx (p := ⟨j,0,none⟩) (Kd.Eah E.out (fun k_ hk => (⟨hk,hk.2⟩ : _ ∧ k_ ≠ j))) (fun _ hk => hk.2) (.int .i64 ((rd_T30 i d).f0))) (fun _ hk => hk.2) (.slice D ((rd_T30 i d).f1).length G)) (fun _ h_ => h_.1))⟩) hb);replace z := ZA (Kd.Ece (ZKN ⟨(Kd.Eah (Kd.Edx (p := ⟨j,1,none⟩) (Kd.Edx (p := ⟨j,0,none⟩) (Kd.Eah z.out (fun k_ hk => (⟨hk,hk.2⟩ : _ ∧ k_ ≠ j))) (fun _ hk => hk.2) (.int .i64 ((rd_T30 i d).f0))) (fun _ hk => hk.2) (.slice D ((rd_T30 i d).f1).length G)) (fun _ h_ => h_.1))⟩) hb);replace u := ZA (Kd.Eab ((Kd.V_reads' (ZKV ⟨(Kd.Eax (Kd.Edp (p := ⟨j,1,none⟩) (Kd.Edp (p := ⟨j,0,none⟩) (Kd.Eax ab.out (fun k_ hk => (⟨hk,hk.2⟩ : _ ∧ k_ ≠ j))) (fun _ hk => hk.2) (.int .i64 ((rd_T30 i d).f0))) (fun _ hk => hk.2) (.slice D ((rd_T30 i d).f1).length G)) (fun _ h_ => h_.1))⟩)).2.2) hb);replace ab := ZA (Kd.Edd (ZKV ⟨(Kd.Eax (Kd.Edp (p := ⟨j,1,none⟩) (Kd.Edp (p := ⟨j,0,none⟩) (Kd.Eax ab.out (fun k_ hk => (⟨hk,hk.2⟩ : _ ∧ k_ ≠ j))) (fun _ hk => hk.2) (.int .i64 ((rd_T30 i d).f0))) (fun _ hk => hk.2) (.slice D ((rd_T30 i d).f1).length G)) (fun _ h_ => h_.1))⟩) hb);replace I := ZA (Eac (g := j) (o := .cells #[.int .i64 ((rd_T30 i d).f0),.slice D ((rd_T30 i d).f1).length G] 30 (0,0)) (by refine ZY ?_;refine Eae (cs := #[.int .i64 ((rd_T30 i d).f0),.slice none 0 0]) ?_ 1 _ rfl;refine ZY ?_;refine Eae (cs := #[.int .i64 0,.slice none 0 0]) ?_ 0 _ rfl;refine ZY ?_;exact I.out) hb);replace HB := BS HB hb;have dD : fd.cell? ⟨j,0,none⟩ = some (.int .i64 ((rd_T30 i d).f0)) := ZC I 0 rfl;have dE : fd.cell? ⟨j,1,none⟩ = some (.slice D ((rd_T30 i d).f1).length G) := ZC I 1 rfl;have dF := Ea I.out 0;have dG := Ea I.out 1)|((with_reducible refine Eaz (f := 52) rfl ?_);refine Ed (some 162) rfl rfl Tryz.func52 (by kernel_rfl) rfl #[.agg #[.int .i64 ((rd_T30 i d).f0),.slice D ((rd_T30 i d).f1).length G]] rfl (by (try simp only [List.map_toArray,List.map_cons,List.map_nil]);first|done|rfl|(simp only [List.length_drop,List.length_take];rfl)) ?_;(with_reducible refine (GO.calls k2 ((rd_T30 i d).f0) _ _ ((rd_T30 i d).f1) aY ee _ ?side1 bg.out fQ.out).mono ?_);(case side1 => repeat (first|exact (by repeat (first|(with_reducible exact u.out)|(with_reducible refine Kd.Ecf ?_ _)|(with_reducible refine Kd.Ecg ?_ _)|(with_reducible refine Kd.Ecy ?_)|exact u.out))|(with_reducible refine Kd.Ecf ?_ _)|(with_reducible refine Kd.Ecg ?_ _)|(with_reducible refine Kd.Ecy ?_)));rintro e fe ⟨rfl,hb⟩;refine ⟨_,rfl,?_⟩;replace an := ZBN an hb;replace ag := ZBR ag hb;replace t := ZBV t hb;replace E := ZBN E hb;replace z := ZBN z hb;replace ab := ZBV ab hb;replace u := ZA (Kd.Eab (by repeat (first|(with_reducible exact u.out)|(with_reducible refine Kd.Ecf ?_ _)|(with_reducible refine Kd.Ecg ?_ _)|(with_reducible refine Kd.Ecy ?_)|exact u.out)) hb);replace I := ZA (Eac (ZH I) hb);replace HB := BS HB hb))
      (try simp only [Act.put,zuA,zuB,zuC])
      go_cut [190] from 190 to 190 (fun eg wc => ∃ (kq : Nat) (aI : Bool),eg = .bool aI ∧ Aside0 (Ff.j2 kq l1 i q aW aM af y ai d i (i.length : Int) d aI = some r) ∧ Aside0 (kq <= k2) ∧ Aside0 (Kd.N k30 30 wc w.heap.size (fun k_ => some k_ ≠ ((.slice Y q.length Z) : Value).ownBlock ∧ some k_ ≠ (ar : Value).ownBlock) (.slice (some aP) i.length X) i) ∧ Aside0 (Kd.R (Kd.int .i64) 3 wc w.heap.size (fun _ => True) (.slice Y q.length Z) q) ∧ Aside0 (Kd.V (Kd.int .i64) 3 wc w.heap.size (fun k_ => some k_ ≠ ((.slice (some aP) i.length X) : Value).ownBlock ∧ some k_ ≠ ((.slice Y q.length Z) : Value).ownBlock ∧ some k_ ≠ (ar : Value).ownBlock ∧ some k_ ≠ ((.slice (some aP) i.length X) : Value).ownBlock) br af) ∧ Aside0 (Kd.N k30 30 wc w.heap.size (fun k_ => some k_ ≠ ((.slice (some aP) i.length X) : Value).ownBlock ∧ some k_ ≠ ((.slice Y q.length Z) : Value).ownBlock ∧ some k_ ≠ ((.slice (some aP) i.length X) : Value).ownBlock) ar y) ∧ Aside0 (Kd.N k30 30 wc w.heap.size (fun k_ => some k_ ≠ ((.slice Y q.length Z) : Value).ownBlock ∧ some k_ ≠ (ar : Value).ownBlock) (.slice (some aP) i.length X) i) ∧ Aside0 (Kd.C (Kd.int .i64) wc D ((rd_T30 i d).f1).length ((rd_T30 i d).f1)) ∧ Aside0 (Below w.heap.size w wc))
      case first =>
       have H := ci.out;clear ci;replace H := YF H;rcases H with ⟨rfl,H⟩|⟨rfl,H⟩;rotate_left
       ·exact absurd H (by simp)
       replace H := YF H;rcases H with ⟨rfl,H⟩|⟨rfl,H⟩;rotate_left
       ·exact absurd H (by simp)
       replace H := YM H;obtain ⟨eh,H⟩ := H;have b0 : (ch == aY) = true := beq_iff_eq.mpr eh;have cN : (ch != aY) = false := bne_eq_false_iff_eq.mpr eh;clear eh
       (first|rw [b0]|rw [cN]|(simp only [Eay,Eba];rw [b0])|skip)
       replace H := YN H;obtain ⟨ff,H⟩ := H;by_cases cl : (rd q d) = aY
       ·rw [if_pos cl] at H;have cO : ((rd q d) == aY) = true := beq_iff_eq.mpr cl;have cP : ((rd q d) != aY) = false := bne_eq_false_iff_eq.mpr cl;clear cl
        as_aux_lemma =>
         have H' := ZA H;clear H;have a2 : 0 <= (d : Int) := ZD;have a3 : d < (q.length : Int) := ZD;obtain ⟨cQ,cm,bI⟩ := Kd.Ean (Kd.R_reads' ag.out).2.2 d a2 a3;cases cm;replace a2 := eq_true a2;replace a3 := eq_true a3;go_wp2;go_meet
         case rel => exact ⟨_,(false),ZG,H',⟨by have := am.out;have := bB.out;first|omega|exact Nat.le_refl _⟩,⟨ZKN ⟨Kd.Eah an.out (fun _ hk => ⟨hk.1.1,hk.1.2⟩)⟩⟩,⟨ZK ag⟩,⟨ZKV ⟨Kd.Eax t.out (fun _ hk => ⟨hk.1.1,⟨hk.1.2.1,⟨hk.1.2.2.1,hk.1.2.2.2⟩⟩⟩)⟩⟩,⟨ZKN ⟨Kd.Eah E.out (fun _ hk => ⟨hk.1.1,⟨hk.1.2.1,hk.1.2.2⟩⟩)⟩⟩,⟨ZKN ⟨Kd.Eah z.out (fun _ hk => ⟨hk.1.1,hk.1.2⟩)⟩⟩,⟨by repeat (first|(with_reducible exact u.out)|(with_reducible refine Kd.Ecf ?_ _)|(with_reducible refine Kd.Ecg ?_ _)|(with_reducible refine Kd.Ecy ?_)|exact u.out)⟩,⟨ZQ HB⟩⟩
       rw [if_neg cl] at H;have cO : ((rd q d) == aY) = false := beq_eq_false_iff_ne.mpr cl;have cP : ((rd q d) != aY) = true := bne_iff_ne.mpr cl;replace H := YJ H;obtain ⟨cR,fR,H⟩ := H
       as_aux_lemma =>
        have H' := ZA H;clear H;have a2 : 0 <= (d : Int) := ZD;have a3 : d < (q.length : Int) := ZD;obtain ⟨cQ,cm,bI⟩ := Kd.Ean (Kd.R_reads' ag.out).2.2 d a2 a3;cases cm;replace a2 := eq_true a2;replace a3 := eq_true a3;have dH : fe.cell? ⟨j,0,none⟩ = some (.int .i64 ((rd_T30 i d).f0)) := ZC I 0 rfl;have dI : fe.cell? ⟨j,1,none⟩ = some (.slice D ((rd_T30 i d).f1).length G) := ZC I 1 rfl;have dJ := Ea I.out 0;have dK := Ea I.out 1;obtain ⟨fS,fT,ei⟩ := Kd.Ecz t.out;subst ei
        go_wp2_with (first|(go_at_call 16;(with_reducible refine (GX.calls k2 _ _ af ((rd_T30 i d).f0) cR _ (WV t) (CV t) fR.out).mono ?_);rintro e w' ⟨rfl,⟨nd,rfl⟩⟩))
        go_meet
        case rel => exact ⟨_,(!cR),ZG,H',⟨by have := am.out;have := bB.out;first|omega|exact Nat.le_refl _⟩,⟨ZKN ⟨Kd.Eah an.out (fun _ hk => ⟨hk.1.1,hk.1.2⟩)⟩⟩,⟨ZK ag⟩,⟨ZKV ⟨Kd.Eax t.out (fun _ hk => ⟨hk.1.1,⟨hk.1.2.1,⟨hk.1.2.2.1,hk.1.2.2.2⟩⟩⟩)⟩⟩,⟨ZKN ⟨Kd.Eah E.out (fun _ hk => ⟨hk.1.1,⟨hk.1.2.1,hk.1.2.2⟩⟩)⟩⟩,⟨ZKN ⟨Kd.Eah z.out (fun _ hk => ⟨hk.1.1,hk.1.2⟩)⟩⟩,⟨by repeat (first|(with_reducible exact u.out)|(with_reducible refine Kd.Ecf ?_ _)|(with_reducible refine Kd.Ecg ?_ _)|(with_reducible refine Kd.Ecy ?_)|exact u.out)⟩,⟨ZQ HB⟩⟩
      case rest =>
       clear ci;obtain ⟨kq,aI,rfl,HA,bJ,an,ag,t,E,z,u,HB⟩ := hcut;cases kq with
       | zero => exact absurd HA.out (by simp [Ff.j2])
       | succ cS =>
        have H := HA.out;clear HA;simp only [Ff.j2] at H;by_cases dL : aI = true
        ·subst dL;rw [if_pos rfl] at H;exact absurd H (by simp)
        replace dL := Bool.eq_false_iff.mpr dL;subst dL;rw [if_neg (show ¬ (false = true) by decide)] at H;replace H := YN H;obtain ⟨fg,H⟩ := H;replace H := YN H;obtain ⟨fh,H⟩ := H;replace H := YI H;rcases H with ⟨cT,H⟩|⟨cT,H⟩;rotate_left
        ·as_aux_lemma =>
          have H' := ZA H;clear H;have a4 : 0 <= (d : Int) := ZD;have a5 : d < (q.length : Int) := ZD;obtain ⟨cU,cn,bK⟩ := Kd.Ean (Kd.R_reads' ag.out).2.2 d a4 a5;cases cn;replace a4 := eq_true a4;replace a5 := eq_true a5;go_wp2
          go_roundg cS
          case measure => have := am.out;have := bB.out;have := bJ.out;omega
          case rel => exact ⟨(ai),(wrap64 (d + 1)),ZG,ZG,H',⟨by have := am.out;have := bB.out;have := bJ.out;omega⟩,⟨ZKN an⟩,⟨ZK ag⟩,⟨ZKV t⟩,⟨ZKN E⟩,⟨ZKN z⟩,⟨ZQ HB⟩⟩
        as_aux_lemma =>
         have H' := ZA H;clear H;have a4 : 0 <= (d : Int) := ZD;have a5 : d < (q.length : Int) := ZD;obtain ⟨cU,cn,bK⟩ := Kd.Ean (Kd.R_reads' ag.out).2.2 d a4 a5;cases cn;replace a4 := eq_true a4;replace a5 := eq_true a5;go_wp2
         go_roundg cS
         case measure => have := am.out;have := bB.out;have := bJ.out;omega
         case rel => exact ⟨(wrap64 (ai + 1)),(wrap64 (d + 1)),ZG,ZG,H',⟨by have := am.out;have := bB.out;have := bJ.out;omega⟩,⟨ZKN an⟩,⟨ZK ag⟩,⟨ZKV t⟩,⟨ZKN E⟩,⟨ZKN z⟩,⟨ZQ HB⟩⟩
   case rest =>
    clear cb;obtain ⟨kq,HA,bL,HB⟩ := hcut;cases kq with
    | zero => exact absurd HA.out (by simp [Ff.j5])
    | succ bM =>
     have H := HA.out;clear HA;simp only [Ff.j5] at H;replace H := YJ H;obtain ⟨⟨bu,av,aN,aw,ao,bj⟩,fU,H⟩ := H;try dsimp only at H
     replace H := YJ H;obtain ⟨⟨cV,bk⟩,fV,H⟩ := H;try dsimp only at H
     replace H := YJ H;obtain ⟨⟨aL,bv⟩,fW,H⟩ := H;try dsimp only at H
     have co := ZA H;clear H
     go_upto_region 35 with (first|((with_reducible refine YG 53 ?_);refine YC (some 236) Tryz.func53 #[.slice A1 l1.length c1] (Fi.calls bM _ _ l1 bu av aN aw ao bj _ (ZR (Kd.Eab cB.out HB.out)) cC.out fU.out) ?_;rintro e gh ⟨cW,cX,cY,cp,rfl,aD,cF,fX,fY,hb⟩;refine ⟨_,rfl,?_⟩;have ap := ZA (Kd.Ecq (Kd.Eah (ok' := fun k_ => some k_ ≠ (cX : Value).ownBlock ∧ some k_ ≠ (cY : Value).ownBlock ∧ some k_ ≠ (cp : Value).ownBlock) aD (fun k_ hk_ => ⟨hk_.2.1,hk_.2.2.1,hk_.2.2.2⟩)) (SZ HB));have aj := ZA (Kd.Ecq (Kd.Eah (ok' := fun k_ => some k_ ≠ (cW : Value).ownBlock ∧ some k_ ≠ (cY : Value).ownBlock ∧ some k_ ≠ (cp : Value).ownBlock) cF (fun k_ hk_ => ⟨hk_.2.1,hk_.2.2.1,hk_.2.2.2⟩)) (SZ HB));have ak := ZA (Kd.Ecq (Kd.Eah (ok' := fun k_ => some k_ ≠ (cW : Value).ownBlock ∧ some k_ ≠ (cX : Value).ownBlock ∧ some k_ ≠ (cp : Value).ownBlock) fX (fun k_ hk_ => ⟨hk_.2.1,hk_.2.2.1,hk_.2.2.2⟩)) (SZ HB));have al := ZA (Kd.Eas (Kd.Eak (ok' := fun k_ => True) fY (fun _ hk_ => trivial)) (SZ HB));replace HB := BS HB hb;obtain ⟨cZ,c2,ej⟩ := Kd.Ebz ap.out;subst ej;obtain ⟨bN,bO,ek⟩ := Kd.Ebz aj.out;subst ek;obtain ⟨bl,bm,el⟩ := Kd.Ebz ak.out;subst el;obtain ⟨a6,a7,em⟩ := Kd.Eaj al.out;subst em)|((with_reducible refine YG 54 ?_);refine YC (some 250) Tryz.func54 #[.slice cZ bu.length c2,.slice bN av.length bO,.int .i64 aN,.slice bl aw.length bm,.slice a6 ao.length a7,.int .i64 bj] (FS.calls bM _ _ bu _ _ av aN _ _ aw _ _ ao bj cV bk _ (WN ap) (CN ap) (WN aj) (CN aj) (WN ak) (CN ak) (WR al) (CR al) fV.out) ?_;rintro e gi ⟨rfl,hb⟩;refine ⟨_,rfl,?_⟩;replace ap := ZBN ap hb;replace aj := ZBN aj hb;replace ak := ZBN ak hb;replace al := ZBR al hb;replace HB := BS HB hb)|((with_reducible refine YG 55 ?_);refine YC (some 260) Tryz.func55 #[.slice cZ bu.length c2,.slice bN av.length bO,.int .i64 aN,.slice bl aw.length bm,.slice a6 ao.length a7,.int .i64 bj] (FA.calls bM _ _ bu _ _ av aN _ _ aw _ _ ao bj aL bv _ (WN ap) (CN ap) (WN aj) (CN aj) (WN ak) (CN ak) (WR al) (CR al) fW.out) ?_;rintro e gj ⟨rfl,hb⟩;refine ⟨_,rfl,?_⟩;replace ap := ZBN ap hb;replace aj := ZBN aj hb;replace ak := ZBN ak hb;replace al := ZBR al hb;replace HB := BS HB hb))
     (try simp only [Act.put,zuA,zuB,zuC])
     go_cut [270] from 224 to 270 (fun en wc => ∃ (kq : Nat) (aJ : Bool),en = .bool aJ ∧ Aside0 (Ff.j6 kq l1 av aN aw ao bj bk aL aJ = some r) ∧ Aside0 (kq <= bM) ∧ Aside0 (Kd.N (Kd.slice 3 (Kd.int .i64)) 28 wc w.heap.size (fun k_ => some k_ ≠ ((.slice bl aw.length bm) : Value).ownBlock ∧ some k_ ≠ ((.slice a6 ao.length a7) : Value).ownBlock) (.slice bN av.length bO) av) ∧ Aside0 (Kd.N k30 30 wc w.heap.size (fun k_ => some k_ ≠ ((.slice bN av.length bO) : Value).ownBlock ∧ some k_ ≠ ((.slice a6 ao.length a7) : Value).ownBlock) (.slice bl aw.length bm) aw) ∧ Aside0 (Kd.R (Kd.int .i64) 3 wc w.heap.size (fun _ => True) (.slice a6 ao.length a7) ao) ∧ Aside0 (Below w.heap.size w wc))
     case first =>
      have H := co.out;clear co;by_cases cy : (bk != bv) = true
      ·rw [if_pos cy] at H;exact absurd H (by simp)
      rw [if_neg cy] at H;have b1 : (bk != bv) = false := by simpa using cy
      (try (have c3 : decide (bk = bv) = true := by simpa using cy))
      (try (have fi : (bk == bv) = true := by simpa using cy))
      clear cy
      (first|rw [b1]|rw [c3]|(simp only [Eay,Eba];rw [b1])|skip)
      as_aux_lemma =>
       have H' := ZA H;clear H;go_wp2;go_meet
       case rel => exact ⟨_,((cV != aL)),ZG,H',⟨by have := am.out;have := bL.out;first|omega|exact Nat.le_refl _⟩,⟨ZKN ⟨Kd.Eah aj.out (fun _ hk => ⟨hk.2.1,hk.2.2⟩)⟩⟩,⟨ZKN ⟨Kd.Eah ak.out (fun _ hk => ⟨hk.2.1,hk.2.2⟩)⟩⟩,⟨ZK al⟩,⟨ZQ HB⟩⟩
     case rest =>
      clear co;obtain ⟨kq,aJ,rfl,HA,cq,bh,ay,az,HB⟩ := hcut;cases kq with
      | zero => exact absurd HA.out (by simp [Ff.j6])
      | succ cr =>
       have H := HA.out;clear HA;simp only [Ff.j6] at H;by_cases dM : aJ = true
       ·subst dM;rw [if_pos rfl] at H;exact absurd H (by simp)
       replace dM := Bool.eq_false_iff.mpr dM;subst dM;rw [if_neg (show ¬ (false = true) by decide)] at H;have ct := ZA H;clear H
       go_upto_if 271 with (fail)
       go_cut [] from 271 to 271 (fun wc => ∃ (kq : Nat),Aside0 (Ff.j7 kq l1 = some r) ∧ Aside0 (kq <= cr) ∧ Aside0 (Below w.heap.size w wc))
       case first =>
        have H := ct.out;clear ct;replace H := YF H;rcases H with ⟨rfl,H⟩|⟨rfl,H⟩;rotate_left
        ·as_aux_lemma =>
          have H' := ZA H;clear H;go_wp2;go_meet
          case rel => exact ⟨_,H',⟨by have := am.out;have := bL.out;have := cq.out;first|omega|exact Nat.le_refl _⟩,⟨ZQ HB⟩⟩
        replace H := YJ H;obtain ⟨⟨c5,c6,fZ⟩,fj,H⟩ := H;try dsimp only at H
        replace H := YF H;rcases H with ⟨rfl,H⟩|⟨rfl,H⟩;rotate_left
        ·exact absurd H (by simp)
        replace H := YI H;rcases H with ⟨aZ,H⟩|⟨aZ,H⟩;rotate_left
        ·(first|rw [aZ]|rw [c94b1]|(simp only [Eay,Eba];rw [aZ])|skip)
         by_cases cz : (aL != false) = true
         ·rw [if_pos cz] at H;exact absurd H (by simp)
         rw [if_neg cz] at H;have fk : (aL != false) = false := by simpa using cz
         (try (have fl : decide (aL = false) = true := by simpa using cz))
         (try (have fm : (aL == false) = true := by simpa using cz))
         clear cz
         as_aux_lemma =>
          have H' := ZA H;clear H
          go_wp2_with (first|((with_reducible refine YG 46 ?_);refine YC (some 275) Tryz.func46 #[.slice bl aw.length bm,.slice a6 ao.length a7] (FT.calls cr _ _ aw _ _ ao c5 c6 true _ (WN ay) (CN ay) (WR az) (CR az) fj.out) ?_;rintro e gl ⟨rfl,hb⟩;refine ⟨_,rfl,?_⟩;replace bh := ZBN bh hb;replace ay := ZBN ay hb;replace az := ZBR az hb;replace HB := BS HB hb))
          go_meet
          case rel => exact ⟨_,H',⟨by have := am.out;have := bL.out;have := cq.out;first|omega|exact Nat.le_refl _⟩,⟨ZQ HB⟩⟩
        (first|rw [aZ]|rw [c94b1]|(simp only [Eay,Eba];rw [aZ])|skip)
        by_cases cA : (aL != (decide (aN < (av.length : Int)))) = true
        ·rw [if_pos cA] at H;exact absurd H (by simp)
        rw [if_neg cA] at H;have fn : (aL != (decide (aN < (av.length : Int)))) = false := by simpa using cA
        (try (have fo : decide (aL = (decide (aN < (av.length : Int)))) = true := by simpa using cA))
        (try (have fp : (aL == (decide (aN < (av.length : Int)))) = true := by simpa using cA))
        clear cA
        as_aux_lemma =>
         have H' := ZA H;clear H
         go_wp2_with (first|((with_reducible refine YG 46 ?_);refine YC (some 275) Tryz.func46 #[.slice bl aw.length bm,.slice a6 ao.length a7] (FT.calls cr _ _ aw _ _ ao c5 c6 true _ (WN ay) (CN ay) (WR az) (CR az) fj.out) ?_;rintro e gm ⟨rfl,hb⟩;refine ⟨_,rfl,?_⟩;replace bh := ZBN bh hb;replace ay := ZBN ay hb;replace az := ZBR az hb;replace HB := BS HB hb))
         go_meet
         case rel => exact ⟨_,H',⟨by have := am.out;have := bL.out;have := cq.out;first|omega|exact Nat.le_refl _⟩,⟨ZQ HB⟩⟩
       case rest =>
        clear ct;obtain ⟨kq,HA,f2,HB⟩ := hcut;cases kq with
        | zero => exact absurd HA.out (by simp [Ff.j7])
        | succ bn =>
         have H := HA.out;clear HA;simp only [Ff.j7] at H;replace H := YJ H;obtain ⟨⟨bw,bx,bz,bA⟩,f3,H⟩ := H;try dsimp only at H
         replace H := YJ H;obtain ⟨⟨bP,bQ⟩,eo,H⟩ := H;try dsimp only at H
         replace H := YJ H;obtain ⟨⟨bR,bS⟩,ep,H⟩ := H;try dsimp only at H
         replace H := YJ H;obtain ⟨⟨aB,aC⟩,er,H⟩ := H;try dsimp only at H
         replace H := YJ H;obtain ⟨⟨es,bT⟩,et,H⟩ := H;try dsimp only at H
         replace H := YJ H;obtain ⟨⟨eu,bU⟩,ev,H⟩ := H;try dsimp only at H
         replace H := YM H;obtain ⟨bV,H⟩ := H;have ew : (bQ == bS) = true := bV
         (try (have ex : decide (bQ = bS) = true := by simpa using bV))
         (try (have ey : (bQ == bS) = true := by simpa using bV))
         clear bV;replace H := YM H;obtain ⟨bW,H⟩ := H;have ez : (bP == bR) = true := bW
         (try (have eA : decide (bP = bR) = true := by simpa using bW))
         (try (have eB : (bP == bR) = true := by simpa using bW))
         clear bW;replace H := YM H;obtain ⟨bX,H⟩ := H;have eC : (bT == bU) = true := bX
         (try (have eD : decide (bT = bU) = true := by simpa using bX))
         (try (have eE : (bT == bU) = true := by simpa using bX))
         clear bX
         as_aux_lemma =>
          obtain rfl := Option.some.inj H
          go_wp2_with (first|((with_reducible refine YG 56 ?_);refine YC (some 300) Tryz.func56 #[.slice A1 l1.length c1] (GW.calls bn _ _ l1 bw bx bz bA _ (ZR (Kd.Eab cB.out HB.out)) cC.out f3.out) ?_;rintro e f4 ⟨eF,eG,rfl,aD,cF,hb⟩;refine ⟨_,rfl,?_⟩;have J := ZA (Kd.Ecq (Kd.Eah (ok' := fun k_ => some k_ ≠ (eG : Value).ownBlock) aD (fun k_ hk_ => hk_.2)) (SZ HB));have M := ZA (Kd.Ecq (Kd.Eah (ok' := fun k_ => some k_ ≠ (eF : Value).ownBlock) cF (fun k_ hk_ => hk_.2)) (SZ HB));replace HB := BS HB hb;obtain ⟨b2,b3,c7⟩ := Kd.Ebz J.out;subst c7;obtain ⟨b4,b5,c8⟩ := Kd.Ebz M.out;subst c8)|((with_reducible refine YG 13 ?_);refine YC (some 310) Tryz.func13 #[.slice b2 bw.length b3,.slice b4 bx.length b5,.int .i64 bz,.int .i64 bA] (Lf.calls bn _ _ bw _ _ bx bz bA bP bQ _ (WN J) (CN J) (WN M) (CN M) eo.out) ?_;rintro e f5 ⟨rfl,hb⟩;refine ⟨_,rfl,?_⟩;replace J := ZBN J hb;replace M := ZBN M hb;replace HB := BS HB hb)|((with_reducible refine YG 15 ?_);refine YC (some 318) Tryz.func15 #[.slice b2 bw.length b3,.slice b4 bx.length b5,.int .i64 bz,.int .i64 bA] (GE.calls bn _ _ bw _ _ bx bz bA bR bS _ (WN J) (CN J) (WN M) (CN M) ep.out) ?_;rintro e f6 ⟨rfl,hb⟩;refine ⟨_,rfl,?_⟩;replace J := ZBN J hb;replace M := ZBN M hb;replace HB := BS HB hb)|((with_reducible refine YG 57 ?_);refine YC (some 322) Tryz.func57 #[.slice A1 l1.length c1] (GK.calls bn _ _ l1 aB aC _ (ZR (Kd.Eab cB.out HB.out)) cC.out er.out) ?_;rintro e f7 ⟨f8,rfl,aD,hb⟩;refine ⟨_,rfl,?_⟩;replace J := ZA (Kd.N_elder' (ZKN J) (Kd.Eap aD) hb);replace M := ZA (Kd.N_elder' (ZKN M) (Kd.Eap aD) hb);have ah := ZA (Kd.Eas aD (SZ HB));replace HB := BS HB hb)|((with_reducible refine Ead (N := 51) rfl ?_);(try (refine Eau (by rfl) ?_;dsimp only));refine ZE 51 #[.int .i64 0,.slice none 0 0] 30 ?_;intro U hg c9 hbox hb;replace J := ZA (Kd.Ece (Kd.Eda (ZKN J) U (Nat.le_of_eq hg.symm)) hb);replace M := ZA (Kd.Ece (Kd.Eda (ZKN M) U (Nat.le_of_eq hg.symm)) hb);replace ah := ZBR ah hb;have ac := ZA (hbox);have fq := YQ hg HB;have fr := YQ hg HB;replace HB := BS HB hb;clear hb hbox hg;have da : c9.cell? ⟨U,0,none⟩ = some (.int .i64 0) := ZC ac 0 rfl;have db : c9.cell? ⟨U,1,none⟩ = some (.slice none 0 0) := ZC ac 1 rfl;have dc := Ea ac.out 0;have dd := Ea ac.out 1;obtain ⟨aA,aq,de⟩ := Kd.Eaj ah.out;subst de)|((with_reducible refine Eaz (f := 12) rfl ?_);refine Ed (some 325) rfl rfl Tryz.func12 (by kernel_rfl) rfl #[.agg #[.int .i64 aB,.slice aA aC.length aq]] rfl (by (try simp only [List.map_toArray,List.map_cons,List.map_nil]);first|done|rfl|(simp only [List.length_drop,List.length_take];rfl)) ?_;(with_reducible refine (GP.calls bn aB _ _ aC es bT _ ?side1 (CR ah) et.out).mono ?_);(case side1 => refine (Kd.R_reads' (e := 3) (base := w.heap.size) (ok := fun k_ => True) (n := aC.length) (c := aq) ?_).2.2;exact (ZK ⟨(Kd.Eak (Kd.Ebs (p := ⟨U,1,none⟩) (Kd.Ebs (p := ⟨U,0,none⟩) (Kd.Eaw ah.out ac.out (by decide)) (fun _ hk => hk.2) (.int .i64 aB)) (fun _ hk => hk.2) (.slice aA aC.length aq)) (fun _ h_ => h_.1))⟩));rintro e df ⟨rfl,hb⟩;refine ⟨_,rfl,?_⟩;replace J := ZA (Kd.Ece (ZKN ⟨(Kd.Eah (Kd.Edx (p := ⟨U,1,none⟩) (Kd.Edx (p := ⟨U,0,none⟩) (Kd.Eah J.out (fun k_ hk => (⟨hk,hk.2⟩ : _ ∧ k_ ≠ U))) (fun _ hk => hk.2) (.int .i64 aB)) (fun _ hk => hk.2) (.slice aA aC.length aq)) (fun _ h_ => h_.1))⟩) hb);replace M := ZA (Kd.Ece (ZKN ⟨(Kd.Eah (Kd.Edx (p := ⟨U,1,none⟩) (Kd.Edx (p := ⟨U,0,none⟩) (Kd.Eah M.out (fun k_ hk => (⟨hk,hk.2⟩ : _ ∧ k_ ≠ U))) (fun _ hk => hk.2) (.int .i64 aB)) (fun _ hk => hk.2) (.slice aA aC.length aq)) (fun _ h_ => h_.1))⟩) hb);replace ah := ZA (Kd.Eem (ZK ⟨(Kd.Eak (Kd.Ebs (p := ⟨U,1,none⟩) (Kd.Ebs (p := ⟨U,0,none⟩) (Kd.Eaw ah.out ac.out (by decide)) (fun _ hk => hk.2) (.int .i64 aB)) (fun _ hk => hk.2) (.slice aA aC.length aq)) (fun _ h_ => h_.1))⟩) hb);replace ac := ZA (Eac (g := U) (o := .cells #[.int .i64 aB,.slice aA aC.length aq] 30 (0,0)) (by refine ZY ?_;refine Eae (cs := #[.int .i64 aB,.slice none 0 0]) ?_ 1 _ rfl;refine ZY ?_;refine Eae (cs := #[.int .i64 0,.slice none 0 0]) ?_ 0 _ rfl;refine ZY ?_;exact ac.out) hb);replace HB := BS HB hb;have dg : df.cell? ⟨U,0,none⟩ = some (.int .i64 aB) := ZC ac 0 rfl;have dh : df.cell? ⟨U,1,none⟩ = some (.slice aA aC.length aq) := ZC ac 1 rfl;have di := Ea ac.out 0;have dj := Ea ac.out 1)|((with_reducible refine Eaz (f := 52) rfl ?_);refine Ed (some 330) rfl rfl Tryz.func52 (by kernel_rfl) rfl #[.agg #[.int .i64 aB,.slice aA aC.length aq]] rfl (by (try simp only [List.map_toArray,List.map_cons,List.map_nil]);first|done|rfl|(simp only [List.length_drop,List.length_take];rfl)) ?_;(with_reducible refine (GO.calls bn aB _ _ aC eu bU _ (WR ah) (CR ah) ev.out).mono ?_);rintro e f9 ⟨rfl,hb⟩;refine ⟨_,rfl,?_⟩;replace J := ZBN J hb;replace M := ZBN M hb;replace ah := ZBR ah hb;replace ac := ZA (Eac (ZH ac) hb);replace HB := BS HB hb))
          go_ret;exact ⟨YR,ZQ HB⟩
def Ff.Pure : Prop := ∀ (l0 : List Int) (l1 : List Int),l0.length * 1 <= 140737488351232 -> (∀ y,y ∈ l0 -> (Lit.int .u8 y).wf = true) -> l1.length * 1 <= 140737488351232 -> (∀ y,y ∈ l1 -> (Lit.int .u8 y).wf = true) -> ∃ k,Ff.f k l0 l1 = some true
theorem Ff.walk (P : Ff.Pure) (w : World) (A0 : Option Addr) (c0 : Nat) (l0 : List Int) (g : Kd.C (Kd.int .u8) w A0 l0.length l0) (i : l0.length <= c0) (d : l0.length * 1 <= 140737488351232 ∧ ∀ y,y ∈ l0 -> (Lit.int .u8 y).wf = true) (A1 : Option Addr) (c1 : Nat) (l1 : List Int) (j : Kd.C (Kd.int .u8) w A1 l1.length l1) (m : l1.length <= c1) (f : l1.length * 1 <= 140737488351232 ∧ ∀ y,y ∈ l1 -> (Lit.int .u8 y).wf = true) :
  Calls Tryz.prog 5 #[.slice A0 l0.length c0,.slice A1 l1.length c1] w fun e w' => e = .returned (.bool true) ∧ Below w.heap.size w w' := by
 obtain ⟨k,h⟩ := P l0 l1 d.1 d.2 f.1 f.2;refine (Ff.calls k A0 c0 l0 A1 c1 l1 true w g i j m h).mono ?_;rintro e w' ⟨rfl,hd⟩;exact ⟨rfl,hd⟩
end Go.Proofs.YtgnijnlgbelifaaGreat.Q
