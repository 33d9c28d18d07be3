import Derived.Test.YtgnijnlgbelifaaGreatQBImplAreWords
import Derived.Test.YtgnijnlgbelifaaGreatGUp
import Derived.Test.YtgnijnlgbelifaaGreatQBImplIsTaught
import Derived.StillTailTactics
import Derived.Test.YtgnijnlgbelifaaGreatGSrtI
import Derived.Ground.SlgfProg
import Derived.Ground.SlsfProg
import Derived.Test.YtgnijnlgbelifaaGreatGSrtI
namespace Go.Proofs.YtgnijnlgbelifaaGreat.Q
open Go.RowKit Go.Proofs.YtgnijnlgbelifaaGreatW.PrintWords Go.Proofs.YtgnijnlgbelifaaGreatW.PrintLast Go.Proofs.YtgnijnlgbelifaaGreatW.PrintMore Go.Proofs.YtgnijnlgbelifaaGreatW.GCall
attribute [local go_sem] Ebu Ebv Ecl Ecm Ebk Ebl Ebw Ebx
set_option linter.unusedVariables false
set_option linter.unusedSimpArgs false
def Fa.dst (a b : Int) : Int := mx (wrap64 (a - b)) (wrap64 (b - a))
def Fa.us (l : List S41) (i : Int) : Int := (rd_T41 l i).f2
def Fa.cf (l : List S41) (a i k : Int) : Int := if wrap64 (Fa.dst (Fa.us l i) (Fa.us l a) - Fa.dst (Fa.us l k) (Fa.us l a)) = 0 then wrap64 (i - k) else wrap64 (Fa.dst (Fa.us l i) (Fa.us l a) - Fa.dst (Fa.us l k) (Fa.us l a))
def Fa.ok (l : List S41) (a : Int) : Prop := l.length <= 1048576 ∧ (∀ x : Int,0 <= x -> x < (l.length : Int) -> 0 <= Fa.us l x ∧ Fa.us l x <= 99999) ∧ 0 <= a ∧ a < (l.length : Int)
def Fa.okB (l : List S41) (a : Int) (o : List Int) : Bool := decide (l.length <= 1048576) && ((List.range l.length).all (fun j => decide (0 <= Fa.us l (j : Int) ∧ Fa.us l (j : Int) <= 99999)) && (decide (0 <= a ∧ a < (l.length : Int)) && (o.all (fun x => decide (0 <= x ∧ x < (l.length : Int))) && decide (o.length < 4611686018427387904))))
theorem Fa.ok_of {l : List S41} {a : Int} {o : List Int} (h : Fa.okB l a o = true) : Fa.ok l a ∧ (∀ x,x ∈ o -> 0 <= x ∧ x < (l.length : Int)) ∧ o.length < 4611686018427387904 := by
 unfold Fa.okB at h;simp only [Bool.and_eq_true,List.all_eq_true,decide_eq_true_eq] at h;obtain ⟨h1,h2,h3,h4,h5⟩ := h;refine ⟨⟨h1,fun x aa ab => ?_,h3⟩,h4,h5⟩;have := h2 x.toNat (List.mem_range.2 (by omega))
 rwa [show ((x.toNat : Nat) : Int) = x by omega] at this
theorem Fa.cf_eq {l : List S41} {a : Int} (h : Fa.ok l a) {i k : Int} (hi : 0 <= i ∧ i < (l.length : Int)) (hk : 0 <= k ∧ k < (l.length : Int)) : ∃ di dk : Int,(di = Fa.dst (Fa.us l i) (Fa.us l a)) ∧ (dk = Fa.dst (Fa.us l k) (Fa.us l a)) ∧ Fa.cf l a i k = if di - dk = 0 then i - k else di - dk := by
 obtain ⟨hl,hu,ha⟩ := h;have h1 := hu i hi.1 hi.2;have h2 := hu k hk.1 hk.2;have h3 := hu a ha.1 ha.2;refine ⟨_,_,rfl,rfl,?_⟩;unfold Fa.cf;generalize Fa.us l i = ui at h1 ⊢;generalize Fa.us l k = uk at h2 ⊢;generalize Fa.us l a = ua at h3 ⊢;have hd : ∀ u : Int,0 <= u ∧ u <= 99999 -> 0 <= Fa.dst u ua ∧ Fa.dst u ua <= 99999 := by
  intro u h4;have e1 : wrap64 (u - ua) = u - ua := by unfold wrap64;omega
  have e2 : wrap64 (ua - u) = ua - u := by unfold wrap64;omega
  unfold Fa.dst mx;rw [e1,e2]
  split <;> omega
 have g1 := hd ui h1;have g2 := hd uk h2;generalize Fa.dst ui ua = di at g1 ⊢;generalize Fa.dst uk ua = dk at g2 ⊢;have e1 : wrap64 (di - dk) = di - dk := by unfold wrap64;omega
 have e2 : wrap64 (i - k) = i - k := by unfold wrap64;omega
 rw [e1,e2]
theorem Fa.cf_neg {l : List S41} {a : Int} (h : Fa.ok l a) {i k : Int} (hi : 0 <= i ∧ i < (l.length : Int)) (hk : 0 <= k ∧ k < (l.length : Int)) : Fa.cf l a i k < 0 ↔ Fa.dst (Fa.us l i) (Fa.us l a) < Fa.dst (Fa.us l k) (Fa.us l a) ∨ Fa.dst (Fa.us l i) (Fa.us l a) = Fa.dst (Fa.us l k) (Fa.us l a) ∧ i < k := by
 obtain ⟨di,dk,e1,e2,e3⟩ := Fa.cf_eq h hi hk;rw [e3,<- e1,<- e2]
 split <;> omega
def Fa.rest (l : List S41) (a : Int) (o : List Int) : List Int := (Go.Proofs.YtgnijnlgbelifaaGreatW.GSrtI.srtF (Fa.cf l a) o).filter fun x => !(decide (x = a))
def Fa.f (k : Nat) (l : List S41) (ls : List (List Int)) (a n : Int) : Option (Int × List Int × Bool) :=
 (Fj.f k ls).bind fun o => if Fa.okB l a o = true then
  ((GB.f k ls a).bind fun b => if b = true then
   (if ((Fa.rest l a o).length : Int) < wrap64 (n - 1) then some (0,([] : List Int),false)
   else if 0 <= wrap64 (n - 1) then
    ((FU.f ((Fa.rest l a o).take (wrap64 (n - 1)).toNat)).bind fun c => if c.length < 17592186044416 then
     ((Fi.f (c ++ [a])).bind fun q => some (a,q,true)) else none)
   else none)
  else some (0,([] : List Int),false))
 else none
set_option maxHeartbeats 1000000
end Go.Proofs.YtgnijnlgbelifaaGreat.Q
namespace Go.Proofs
open Go.Shelf
shelf_lay_g SlLaysF.n6 Slsf 6 at Tryz 116 as Tryz.laysSI116
shelf_lay_g SlLaysH.n10 Slgf 10 at Tryz 120 as Tryz.laysDI120
end Go.Proofs
namespace Go.Proofs.YtgnijnlgbelifaaGreat.Q
open Go.RowKit Go.Lib Go.Sort Go.Proofs.YtgnijnlgbelifaaGreatW.PrintWords Go.Proofs.YtgnijnlgbelifaaGreatW.PrintLast Go.Proofs.YtgnijnlgbelifaaGreatW.PrintMore Go.Proofs.YtgnijnlgbelifaaGreatW Go.Proofs.YtgnijnlgbelifaaGreat.Q Go.Proofs.YtgnijnlgbelifaaGreatW.GCall
set_option linter.unusedVariables false
set_option linter.unusedSimpArgs false
theorem Fa.dist_calls (a b : Int) (w : World) : Calls Tryz.prog 119 #[.int .i64 a,.int .i64 b] w fun e w' => e = .returned (.int .i64 (Fa.dst a b)) ∧ w' = w := by
 obtain ⟨m,hm⟩ : ∃ m : Int,Fa.dst a b = m := ⟨_,rfl⟩;have hm_ : (if (wrap64 (a - b)) < (wrap64 (b - a)) then (wrap64 (b - a)) else (wrap64 (a - b))) = m := hm;rw [hm];go_enter Tryz.func119,Tryz.ntmps119;go_wp2;go_ret;exact ⟨by first|rfl|(simp only [<- hm_];first|rfl|(simp;done)|(simp;rw [Int.max_def];split <;> split <;> omega)),rfl⟩
theorem Fa.or_eq (a b : Int) : GN.f 4 [a,b] = some (if a = 0 then b else a) := by
 have e1 : wrap64 1 = 1 := by unfold wrap64;omega
 have e2 : wrap64 2 = 2 := by unfold wrap64;omega
 unfold GN.f;by_cases h1 : a = 0;rotate_left
 ·simp [GN.l0,Go.Proofs.YtgnijnlgbelifaaGreatW.PrintWords.rd,h1]
 by_cases h2 : b = 0
 ·simp [GN.l0,Go.Proofs.YtgnijnlgbelifaaGreatW.PrintWords.rd,h1,h2,e1,e2]
 simp [GN.l0,Go.Proofs.YtgnijnlgbelifaaGreatW.PrintWords.rd,h1,h2,e1,e2]
theorem Fa.two_C (w : World) (a b : Int) (t : Nat) : Kd.C (Kd.int .i64) (w.alloc (.cells #[.int .i64 a,.int .i64 b] t)) (some ⟨w.heap.size,0,none⟩) ([a,b] : List Int).length [a,b] := by
 refine ⟨rfl,by simp,fun _ => ⟨_,rfl,fun j p hj => ?_⟩⟩;rcases j with _ | _ | j
 ·obtain rfl : a = p := by simpa using hj
  refine ⟨[.int .i64 a],rfl,rfl,fun i u hu => ?_⟩;rcases i with _ | i
  ·obtain rfl : Value.int .i64 a = u := by simpa using hu
   change (w.alloc _).cell? ⟨w.heap.size,0,none⟩ = _;simp
  simp at hu
 ·obtain rfl : b = p := by simpa using hj
  refine ⟨[.int .i64 b],rfl,rfl,fun i u hu => ?_⟩;rcases i with _ | i
  ·obtain rfl : Value.int .i64 b = u := by simpa using hu
   change (w.alloc _).cell? ⟨w.heap.size,1,none⟩ = _;simp
  simp at hu
 simp at hj
set_option maxHeartbeats 4000000 in
set_option maxRecDepth 100000 in
theorem Fa.cmp (A0 : Option Addr) (c0 : Nat) (l0 : List S41) (a i k : Int) (gb ga : Nat) (W : World) (d : Kd.C k41 W A0 l0.length l0) (ha : 0 <= a ∧ a < (l0.length : Int)) (hi : 0 <= i ∧ i < (l0.length : Int)) (hk : 0 <= k ∧ k < (l0.length : Int)) (hbl : W.cell? ⟨gb,0,none⟩ = some (.slice A0 l0.length c0)) (hba : W.cell? ⟨ga,0,none⟩ = some (.int .i64 a)) :
  Calls Tryz.prog 117 #[.int .i64 i,.int .i64 k,.pointer (some ⟨gb,0,none⟩),.pointer (some ⟨ga,0,none⟩)] W fun e w' => e = .returned (.int .i64 (Fa.cf l0 a i k)) ∧ ∃ q os',w' = grow (W.drewN q) os' := by
 have hu := Tryz.underlying41;obtain ⟨ac,A1,c1,e1,s,t,g,_,_⟩ := at_T41 d i hi.1 hi.2;obtain ⟨ad,A2,c2,e2,u,v,j,_,_⟩ := at_T41 d a ha.1 ha.2;obtain ⟨ae,A3,c3,e3,y,z,n,_,_⟩ := at_T41 d k hk.1 hk.2;cases e1;cases e2;cases e3;have p1 := eq_true hi.1;have p2 := eq_true hi.2;have p3 := eq_true ha.1;have p4 := eq_true ha.2;have p5 := eq_true hk.1;have p6 := eq_true hk.2;unfold Fa.cf Fa.us;generalize (rd_T41 l0 i).f2 = yi at g ⊢;generalize (rd_T41 l0 a).f2 = ya at j ⊢;generalize (rd_T41 l0 k).f2 = yk at n ⊢;obtain ⟨m1,o⟩ : ∃ m : Int,wrap64 (Fa.dst yi ya - Fa.dst yk ya) = m := ⟨_,rfl⟩;obtain ⟨m2,p⟩ : ∃ m : Int,wrap64 (i - k) = m := ⟨_,rfl⟩;have aa : IntKind.i64.wrap (Fa.dst yi ya - Fa.dst yk ya) = m1 := (Ecw _).trans o;have ab : IntKind.i64.wrap (i - k) = m2 := (Ecw _).trans p;rw [o,p];have hq := Fa.or_eq m1 m2;generalize (if m1 = 0 then m2 else m1) = m3 at hq ⊢;have HQ := ZA hq;clear hq;clear d hi hk ha s t u v y z;have HOR := fun W' => ZA (Fa.two_C W' m1 m2 3)
 go_enter Tryz.func117,Tryz.ntmps117;go_wp2
 go_still_tail 26,(by kernel_rfl)
 still_call (Fa.dist_calls yi ya _)
 repeat still_step
 still_call (Fa.dist_calls yk ya _)
 repeat still_step
 refine wpStill_nil ?_;change wpList _ _ _ _ _ W.drew;clear g j n hbl hba;obtain ⟨w2,f⟩ : ∃ w2 : World,W.drew = w2 := ⟨_,rfl⟩;rw [f];replace f := ZA f
 go_wp2_with (go_at_call 118;refine (GN.calls 4 _ _ [m1,m2] _ _ (HOR w2).out (Nat.le_refl _) HQ.out).mono ?_;rintro e w' ⟨rfl,nd_,rfl⟩)
 go_ret;obtain ⟨rfl⟩ := f;have e1 : W.drewN (nd_ + 1) = (W.drew).drewN nd_ := by
  have e2 : W.drawn + (nd_ + 1) = W.drawn + 1 + nd_ := by omega
  simp only [World.drewN,World.drew,e2]
 exact ⟨rfl,nd_ + 1,#[.cells #[.int .i64 m1,.int .i64 m2] 3 (0,0)],by rw [e1];rfl⟩
theorem Fa.swo {l : List S41} {a : Int} (h : Fa.ok l a) : SWO (ltOf fun (x y : {x : Int // 0 <= x ∧ x < (l.length : Int)}) => Fa.cf l a x.1 y.1) := by
 have e : ∀ x y : {x : Int // 0 <= x ∧ x < (l.length : Int)},ltOf (fun (x y : {x : Int // 0 <= x ∧ x < (l.length : Int)}) => Fa.cf l a x.1 y.1) x y = decide (Fa.dst (Fa.us l x.1) (Fa.us l a) < Fa.dst (Fa.us l y.1) (Fa.us l a) ∨ Fa.dst (Fa.us l x.1) (Fa.us l a) = Fa.dst (Fa.us l y.1) (Fa.us l a) ∧ x.1 < y.1) := fun x y => by
  unfold ltOf;rw [decide_eq_decide];exact Fa.cf_neg h x.2 y.2
 refine ⟨fun x => ?_,fun x y z h1 h2 => ?_,fun x y z h1 h2 => ?_⟩
 ·rw [e];exact decide_eq_false (by omega)
 ·rw [e] at *;exact decide_eq_true (by have := of_decide_eq_true h1;have := of_decide_eq_true h2;omega)
 rw [e] at *;exact decide_eq_false (by have := of_decide_eq_false h1;have := of_decide_eq_false h2;omega)
theorem Fa.tot {l : List S41} {a : Int} (h : Fa.ok l a) (x y : Int) (hx : 0 <= x ∧ x < (l.length : Int)) (hy : 0 <= y ∧ y < (l.length : Int)) (h1 : ¬ Fa.cf l a x y < 0) (h2 : ¬ Fa.cf l a y x < 0) : x = y := by
 rw [Fa.cf_neg h hx hy] at h1;rw [Fa.cf_neg h hy hx] at h2;omega
set_option maxHeartbeats 1000000 in
theorem Fa.lit2 (a x : Int) (ga : Nat) (W : World) (hba : W.cell? ⟨ga,0,none⟩ = some (.int .i64 a)) : Calls Tryz.prog 121 #[.int .i64 x,.pointer (some ⟨ga,0,none⟩)] W fun e w' => e = .returned (.bool (decide (x = a))) ∧ Below W.heap.size W w' := by
 have hb : (x == a) = decide (x = a) := rfl;go_enter Tryz.func121,Tryz.ntmps121;go_wp2;go_ret;exact ⟨by first|rfl|(simp;done)|(rw [hb]),Below.refl _ _⟩
theorem Fa.sort (A0 : Option Addr) (c0 : Nat) (l : List S41) (a : Int) (g4 g6 base : Nat) (v : Value) (o : List Int) (w0 w : World) (hok : Fa.ok l a) (ho : ∀ x,x ∈ o -> 0 <= x ∧ x < (l.length : Int)) (hlen : o.length < 4611686018427387904) (d : Kd.C k41 w0 A0 l.length l) (hB : Below w0.heap.size w0 w) (hle : w0.heap.size <= base) (hR : Kd.R (Kd.int .i64) 3 w base (fun _ => True) v o)
  (f : w.heap[g4]? = some (.cells #[.slice A0 l.length c0] 24 (0,0))) (g : w.heap[g6]? = some (.cells #[.int .i64 a] 3 (0,0))) (h4 : g4 < base) (h6 : g6 < base) :
  Calls Tryz.prog 116 #[v,.func (.func 117) #[] #[.pointer (some ⟨g4,0,none⟩),.pointer (some ⟨g6,0,none⟩)]] w fun e w' => e = .returned (.tuple #[]) ∧ Kd.R (Kd.int .i64) 3 w' base (fun _ => True) v (GSrtI.srtF (Fa.cf l a) o) ∧ w.grownBy w' v.ownBlock := by
 letI : Inhabited {x : Int // 0 <= x ∧ x < (l.length : Int)} := ⟨⟨a,hok.2.2⟩⟩
 have eg : ∀ args w,(callFunc 117 args).run Tryz.prog w = .ok (.enter 117 args) w := enters_of Tryz.func117 (by kernel_rfl) rfl;have hcon := GSrtI.Elp Tryz.laysSI116 (fun x => 0 <= x ∧ x < (l.length : Int)) (Fa.cf l a) (Fa.swo hok) (fun x y hx hy => Fa.tot hok x y hx hy) 117 #[.pointer (some ⟨g4,0,none⟩),.pointer (some ⟨g6,0,none⟩)] eg 3 base (fun _ => True) v o w hR ho hlen (fun W x y hx hy hg => by
  have hbel : Below w0.heap.size w0 W := hB.grown hg hB.size (fun k hk => Nat.le_trans hle (Kd.Eal hR k hk));have n4 : some g4 ≠ v.ownBlock := fun e => by have := Kd.Eal hR g4 e.symm;omega
  have n6 : some g6 ≠ v.ownBlock := fun e => by have := Kd.Eal hR g6 e.symm;omega
  exact Fa.cmp A0 c0 l a x y g4 g6 W (Kd.Eac d hbel) hok.2.2 hx hy ((Ebc (Ebb f hg n4) 0).trans rfl) ((Ebc (Ebb g hg n6) 0).trans rfl))
 exact hcon
theorem Fa.del (a : Int) (g6 base : Nat) (v : Value) (o : List Int) (w : World) (hR : Kd.R (Kd.int .i64) 3 w base (fun _ => True) v o) (d : w.heap[g6]? = some (.cells #[.int .i64 a] 3 (0,0))) (h6 : g6 < base) :
  Calls Tryz.prog 120 #[v,.func (.func 121) #[] #[.pointer (some ⟨g6,0,none⟩)]] w fun e w' => ∃ v',e = .returned v' ∧ Kd.R (Kd.int .i64) 3 w' base (fun _ => True) v' (o.filter fun x => !(decide (x = a))) ∧ v'.ownBlock = v.ownBlock ∧ w.grownBy w' v.ownBlock := by
 have eg : ∀ args w,(callFunc 121 args).run Tryz.prog w = .ok (.enter 121 args) w := enters_of Tryz.func121 (by kernel_rfl) rfl;have hcon := GDel.Emw Tryz.laysDI120 (Kd.int .i64) rfl (.int .i64 0) Tryz.zeroValue3 rfl (fun u hu => by simp [Value.cells] at hu;subst hu;rfl) (fun x => some (decide (x = a))) (fun x => decide (x = a)) 121 #[.pointer (some ⟨g6,0,none⟩)] eg 3 base (fun _ => True) v o w hR (fun _ _ => rfl) (fun W x u b hg hx hK hb => by
  obtain rfl := Option.some.inj hb;have n6 : some g6 ≠ v.ownBlock := fun e => by have := Kd.Eal hR g6 e.symm;omega
  obtain rfl : (Value.int .i64 x) = u := by have e_ : [(Value.int .i64 x : Value)] = [u] := hK.symm ▸ rfl;injection e_
  exact Fa.lit2 a x g6 W ((Ebc (Ebb d hg n6) 0).trans rfl))
 exact hcon
-- MAIN
def Fa.T6 : Bool × List (List Nat × List Nat) := (true,[([],[]),([],[]),([],[]),([2],[2]),([1,3],[1,3]),([4],[4]),([],[]),([6],[6]),([5,7,5],[5,7]),([8,8],[8]),([0,9],[0,9]),([10,9,0,1,2,3,4,5,6,7,8,9,10],[10]),([11,0,1,2,3,4,5,6,7,8,9,10,11],[])])
def Fa.B6 : List Nat := [0,0,0,4,14,30,0,64,254,510,1023,2047,4095]
theorem Fa.tab6 : rtab .any (opsOf Tryz.f63 6) = Fa.T6 := by kernel_rfl
theorem Fa.bits6 : Eco Fa.T6.2 Fa.B6 = true := by kernel_rfl
set_option maxHeartbeats 3000000 in
set_option maxRecDepth 100000 in
theorem Fa.calls (k : Nat) (A0 : Option Addr) (c0 : Nat) (l : List S41) (A1 : Option Addr) (c1 : Nat) (ls : List (List Int)) (a : Int) (n : Int) (r1 : Int) (r2 : List Int) (r3 : Bool) (w : World) (aO : Kd.C k41 w A0 l.length l) (aY : l.length <= c0) (aP : Kd.C (Kd.slice 3 (Kd.int .i64)) w A1 ls.length ls) (aQ : ls.length <= c1) (h : Fa.f k l ls a n = some (r1,r2,r3)) :
  Calls Tryz.prog 63 #[.slice A0 l.length c0,.slice A1 ls.length c1,.int .i64 a,.int .i64 n] w fun e w' => ∃ aR : Value,e = .returned (.tuple #[.agg #[.int .i64 r1,aR],.bool r3]) ∧ Kd.R (Kd.int .i64) 3 w' w.heap.size (fun _ => True) aR r2 ∧ Below w.heap.size w w' := by
 have huq := Tryz.underlying30;have aG := ZA aO;have al := ZA aP;have am := ZA aQ;clear aO aY aP aQ;have HB := ZA (Below.refl w.heap.size w);unfold Fa.f at h;obtain ⟨o,an,h⟩ := ZI h;replace an := ZA an;by_cases hkk : Fa.okB l a o = true
 case neg => rw [if_neg hkk] at h;cases h
 rw [if_pos hkk] at h;obtain ⟨hok,hin,hlen⟩ := Fa.ok_of hkk;clear hkk;obtain ⟨b,ao,h⟩ := ZI h;replace ao := ZA ao;generalize hd : Fa.rest l a o = d at h;obtain ⟨m,hm⟩ : ∃ m_ : Int,wrap64 (n - 1) = m_ := ⟨_,rfl⟩;have hmw : IntKind.i64.wrap (n - 1) = m := (Ecw _).trans hm;rw [hm] at h;cases b with
 | false =>
  rw [if_neg (by decide)] at h;simp only [Option.some.injEq,Prod.mk.injEq] at h;obtain ⟨rfl,rfl,rfl⟩ := h;go_enter Tryz.func63,Tryz.ntmps63
  go_wp2_with (first|((with_reducible refine Eaf (N := 4) rfl ?_);refine ZE 4 #[.slice A0 l.length c0] 24 ?_;intro g4 hg w1 hbox hb;have s := ZA hbox;have u := ZA (Eag HB.out hb);clear HB;have HB := u;clear u hb hg hbox)|((with_reducible refine Eaf (N := 6) rfl ?_);refine ZE 6 #[.int .i64 a] 3 ?_;intro g6 hg w2 hbox hb;have D := ZA (Eaa s.out hb);have g := ZA hbox;have u := ZA (Eag HB.out hb);clear HB s;have HB := u;have s := D;clear D u hb hg hbox)|((with_reducible refine Eaf (N := 8) rfl ?_);refine ZE 8 #[.int .i64 0,.slice none 0 0] 30 ?_;intro g8 hg w8 hbox hb;have aa := ZA (show g6 ≠ g8 from by have h_ := Eau g.out;rw [hg];exact Nat.ne_of_lt h_);have D := ZA (Eaa s.out hb);have ae := ZA (Eaa g.out hb);have t := ZA hbox;have af := ZA (show w.heap.size <= g8 from by rw [hg];exact Ear HB.out);have u := ZA (Eag HB.out hb);clear HB s g;have HB := u;have s := D;have g := ae;clear D u ae hb hg hbox;have U := ZA (Eau s.out);have G := ZA (Eau g.out);have ag := ZA (Eau t.out);have HLE := ZA (Ear HB.out))|(go_at_call 86;refine (Fj.calls k A1 c1 ls o w8 (Kd.Eac al.out HB.out) am.out an.out).mono ?_;rintro e w9 ⟨ah,rfl,hro,hb⟩;have HRO := ZA hro;replace s := ZA (Eaa s.out hb);replace g := ZA (Eaa g.out hb);replace t := ZA (Eaa t.out hb);replace HB := ZA (Eag HB.out hb);clear hb hro)|(go_at_call 116;refine (Fa.sort A0 c0 l a g4 g6 w8.heap.size ah o w _ hok hin hlen aG.out HB.out HLE.out HRO.out s.out g.out U.out G.out).mono ?_;rintro e aS ⟨rfl,hr,hg⟩;replace s := ZA (Ebb s.out hg (fun e_ => by have y := Kd.Eal HRO.out _ e_.symm;have z := U.out;omega));replace g := ZA (Ebb g.out hg (fun e_ => by have y := Kd.Eal HRO.out _ e_.symm;have z := G.out;omega));replace t := ZA (Ebb t.out hg (fun e_ => by have y := Kd.Eal HRO.out _ e_.symm;have z := ag.out;omega));replace HB := ZA (HB.out.grown hg HB.out.size (fun k_ hk_ => Nat.le_trans HLE.out (Kd.Eal HRO.out k_ hk_)));clear HRO;have HRO := ZA hr;clear hr hg)|(go_at_call 120;refine (Fa.del a g6 w8.heap.size ah _ _ HRO.out g.out G.out).mono ?_;rintro e ap ⟨aq,rfl,hr,ho_,hg⟩;replace s := ZA (Ebb s.out hg (fun e_ => by have y := Kd.Eal HRO.out _ e_.symm;have z := U.out;omega));replace g := ZA (Ebb g.out hg (fun e_ => by have y := Kd.Eal HRO.out _ e_.symm;have z := G.out;omega));replace t := ZA (Ebb t.out hg (fun e_ => by have y := Kd.Eal HRO.out _ e_.symm;have z := ag.out;omega));replace HB := ZA (HB.out.grown hg HB.out.size (fun k_ hk_ => Nat.le_trans HLE.out (Kd.Eal HRO.out k_ hk_)));clear HRO;have V : Kd.R (Kd.int .i64) 3 ap w8.heap.size (fun _ => True) aq d := (by rw [<- hd];exact hr);obtain ⟨Ad,cd,rfl⟩ := Kd.Eai V;have HRD := ZA V;clear hr V hg ho_;have X := (Ebc g.out 0).trans (show (#[Value.int .i64 a] : Array Value)[0]? = some (.int .i64 a) from rfl))|(go_at_call 71;refine (GB.calls k A1 c1 ls a false _ (Kd.Eac al.out HB.out) am.out ao.out).mono ?_;rintro e E ⟨rfl,hb⟩;replace s := ZA (Eaa s.out hb);replace g := ZA (Eaa g.out hb);replace t := ZA (Eaa t.out hb);replace HB := ZA (Eag HB.out hb);have ai := ZA (Kd.Ebj HRD.out hb);clear HRD X;have HRD := ai;clear ai hb;have X := (Ebc g.out 0).trans (show (#[Value.int .i64 a] : Array Value)[0]? = some (.int .i64 a) from rfl);have aB := (Ebc t.out 0).trans (show (#[Value.int .i64 0,Value.slice none 0 0] : Array Value)[0]? = some (.int .i64 0) from rfl);have aC := (Ebc t.out 1).trans (show (#[Value.int .i64 0,Value.slice none 0 0] : Array Value)[1]? = some (.slice none 0 0) from rfl);have aD := Ea t.out 0;have aE := Ea t.out 1))
  refine bodyPost_ret (Ecf rfl _ _ g8 30 #[.int .i64 0,.slice none 0 0] (0,0) _ rfl (by refine Eae (cs := #[.int .i64 0,.slice none 0 0]) ?_ 1 _ rfl;refine Eae (cs := #[.int .i64 0,.slice none 0 0]) ?_ 0 _ rfl;exact t.out) Tryz.underlying30 rfl (by kernel_rfl)) rfl ?_;exact ⟨_,by first|rfl|(simp;done),Kd.Edp _ _ _ _ _,Ebh (Ebh HB.out af.out) af.out⟩
 | true =>
  rw [if_pos rfl] at h;by_cases cl : (d.length : Int) < m
  ·rw [if_pos cl] at h;have aZ := decide_eq_true cl;simp only [Option.some.injEq,Prod.mk.injEq] at h;obtain ⟨rfl,rfl,rfl⟩ := h;clear cl;go_enter Tryz.func63,Tryz.ntmps63
   go_wp2_with (first|((with_reducible refine Eaf (N := 4) rfl ?_);refine ZE 4 #[.slice A0 l.length c0] 24 ?_;intro g4 hg w1 hbox hb;have s := ZA hbox;have u := ZA (Eag HB.out hb);clear HB;have HB := u;clear u hb hg hbox)|((with_reducible refine Eaf (N := 6) rfl ?_);refine ZE 6 #[.int .i64 a] 3 ?_;intro g6 hg w2 hbox hb;have D := ZA (Eaa s.out hb);have g := ZA hbox;have u := ZA (Eag HB.out hb);clear HB s;have HB := u;have s := D;clear D u hb hg hbox)|((with_reducible refine Eaf (N := 8) rfl ?_);refine ZE 8 #[.int .i64 0,.slice none 0 0] 30 ?_;intro g8 hg w8 hbox hb;have aa := ZA (show g6 ≠ g8 from by have h_ := Eau g.out;rw [hg];exact Nat.ne_of_lt h_);have D := ZA (Eaa s.out hb);have ae := ZA (Eaa g.out hb);have t := ZA hbox;have af := ZA (show w.heap.size <= g8 from by rw [hg];exact Ear HB.out);have u := ZA (Eag HB.out hb);clear HB s g;have HB := u;have s := D;have g := ae;clear D u ae hb hg hbox;have U := ZA (Eau s.out);have G := ZA (Eau g.out);have ag := ZA (Eau t.out);have HLE := ZA (Ear HB.out))|(go_at_call 86;refine (Fj.calls k A1 c1 ls o w8 (Kd.Eac al.out HB.out) am.out an.out).mono ?_;rintro e w9 ⟨ah,rfl,hro,hb⟩;have HRO := ZA hro;replace s := ZA (Eaa s.out hb);replace g := ZA (Eaa g.out hb);replace t := ZA (Eaa t.out hb);replace HB := ZA (Eag HB.out hb);clear hb hro)|(go_at_call 116;refine (Fa.sort A0 c0 l a g4 g6 w8.heap.size ah o w _ hok hin hlen aG.out HB.out HLE.out HRO.out s.out g.out U.out G.out).mono ?_;rintro e aS ⟨rfl,hr,hg⟩;replace s := ZA (Ebb s.out hg (fun e_ => by have y := Kd.Eal HRO.out _ e_.symm;have z := U.out;omega));replace g := ZA (Ebb g.out hg (fun e_ => by have y := Kd.Eal HRO.out _ e_.symm;have z := G.out;omega));replace t := ZA (Ebb t.out hg (fun e_ => by have y := Kd.Eal HRO.out _ e_.symm;have z := ag.out;omega));replace HB := ZA (HB.out.grown hg HB.out.size (fun k_ hk_ => Nat.le_trans HLE.out (Kd.Eal HRO.out k_ hk_)));clear HRO;have HRO := ZA hr;clear hr hg)|(go_at_call 120;refine (Fa.del a g6 w8.heap.size ah _ _ HRO.out g.out G.out).mono ?_;rintro e ap ⟨aq,rfl,hr,ho_,hg⟩;replace s := ZA (Ebb s.out hg (fun e_ => by have y := Kd.Eal HRO.out _ e_.symm;have z := U.out;omega));replace g := ZA (Ebb g.out hg (fun e_ => by have y := Kd.Eal HRO.out _ e_.symm;have z := G.out;omega));replace t := ZA (Ebb t.out hg (fun e_ => by have y := Kd.Eal HRO.out _ e_.symm;have z := ag.out;omega));replace HB := ZA (HB.out.grown hg HB.out.size (fun k_ hk_ => Nat.le_trans HLE.out (Kd.Eal HRO.out k_ hk_)));clear HRO;have V : Kd.R (Kd.int .i64) 3 ap w8.heap.size (fun _ => True) aq d := (by rw [<- hd];exact hr);obtain ⟨Ad,cd,rfl⟩ := Kd.Eai V;have HRD := ZA V;clear hr V hg ho_;have X := (Ebc g.out 0).trans (show (#[Value.int .i64 a] : Array Value)[0]? = some (.int .i64 a) from rfl))|(go_at_call 71;refine (GB.calls k A1 c1 ls a true _ (Kd.Eac al.out HB.out) am.out ao.out).mono ?_;rintro e E ⟨rfl,hb⟩;replace s := ZA (Eaa s.out hb);replace g := ZA (Eaa g.out hb);replace t := ZA (Eaa t.out hb);replace HB := ZA (Eag HB.out hb);have ai := ZA (Kd.Ebj HRD.out hb);clear HRD X;have HRD := ai;clear ai hb;have X := (Ebc g.out 0).trans (show (#[Value.int .i64 a] : Array Value)[0]? = some (.int .i64 a) from rfl);have aB := (Ebc t.out 0).trans (show (#[Value.int .i64 0,Value.slice none 0 0] : Array Value)[0]? = some (.int .i64 0) from rfl);have aC := (Ebc t.out 1).trans (show (#[Value.int .i64 0,Value.slice none 0 0] : Array Value)[1]? = some (.slice none 0 0) from rfl);have aD := Ea t.out 0;have aE := Ea t.out 1))
   refine bodyPost_ret (Ecf rfl _ _ g8 30 #[.int .i64 0,.slice none 0 0] (0,0) _ rfl (by refine Eae (cs := #[.int .i64 0,.slice none 0 0]) ?_ 1 _ rfl;refine Eae (cs := #[.int .i64 0,.slice none 0 0]) ?_ 0 _ rfl;exact t.out) Tryz.underlying30 rfl (by kernel_rfl)) rfl ?_;exact ⟨_,by first|rfl|(simp;done),Kd.Edp _ _ _ _ _,Ebh (Ebh HB.out af.out) af.out⟩
  rw [if_neg cl] at h;have aZ := decide_eq_false cl;by_cases cm : 0 <= m
  case neg => rw [if_neg cm] at h;cases h
  rw [if_pos cm] at h;obtain ⟨c,aH,h⟩ := ZI h;replace aH := ZA aH;by_cases cc : c.length < 17592186044416
  case neg => rw [if_neg cc] at h;cases h
  rw [if_pos cc] at h;have LM := ZA cc;obtain ⟨q,aI,h⟩ := ZI h;replace aI := ZA aI;simp only [Option.some.injEq,Prod.mk.injEq] at h;obtain ⟨rfl,rfl,rfl⟩ := h;go_enter Tryz.func63,Tryz.ntmps63
  go_wp2_with (first|((with_reducible refine Eaf (N := 4) rfl ?_);refine ZE 4 #[.slice A0 l.length c0] 24 ?_;intro g4 hg w1 hbox hb;have s := ZA hbox;have u := ZA (Eag HB.out hb);clear HB;have HB := u;clear u hb hg hbox)|((with_reducible refine Eaf (N := 6) rfl ?_);refine ZE 6 #[.int .i64 a] 3 ?_;intro g6 hg w2 hbox hb;have D := ZA (Eaa s.out hb);have g := ZA hbox;have u := ZA (Eag HB.out hb);clear HB s;have HB := u;have s := D;clear D u hb hg hbox)|((with_reducible refine Eaf (N := 8) rfl ?_);refine ZE 8 #[.int .i64 0,.slice none 0 0] 30 ?_;intro g8 hg w8 hbox hb;have aa := ZA (show g6 ≠ g8 from by have h_ := Eau g.out;rw [hg];exact Nat.ne_of_lt h_);have D := ZA (Eaa s.out hb);have ae := ZA (Eaa g.out hb);have t := ZA hbox;have af := ZA (show w.heap.size <= g8 from by rw [hg];exact Ear HB.out);have u := ZA (Eag HB.out hb);clear HB s g;have HB := u;have s := D;have g := ae;clear D u ae hb hg hbox;have U := ZA (Eau s.out);have G := ZA (Eau g.out);have ag := ZA (Eau t.out);have HLE := ZA (Ear HB.out))|(go_at_call 86;refine (Fj.calls k A1 c1 ls o w8 (Kd.Eac al.out HB.out) am.out an.out).mono ?_;rintro e w9 ⟨ah,rfl,hro,hb⟩;have HRO := ZA hro;replace s := ZA (Eaa s.out hb);replace g := ZA (Eaa g.out hb);replace t := ZA (Eaa t.out hb);replace HB := ZA (Eag HB.out hb);clear hb hro)|(go_at_call 116;refine (Fa.sort A0 c0 l a g4 g6 w8.heap.size ah o w _ hok hin hlen aG.out HB.out HLE.out HRO.out s.out g.out U.out G.out).mono ?_;rintro e aS ⟨rfl,hr,hg⟩;replace s := ZA (Ebb s.out hg (fun e_ => by have y := Kd.Eal HRO.out _ e_.symm;have z := U.out;omega));replace g := ZA (Ebb g.out hg (fun e_ => by have y := Kd.Eal HRO.out _ e_.symm;have z := G.out;omega));replace t := ZA (Ebb t.out hg (fun e_ => by have y := Kd.Eal HRO.out _ e_.symm;have z := ag.out;omega));replace HB := ZA (HB.out.grown hg HB.out.size (fun k_ hk_ => Nat.le_trans HLE.out (Kd.Eal HRO.out k_ hk_)));clear HRO;have HRO := ZA hr;clear hr hg)|(go_at_call 120;refine (Fa.del a g6 w8.heap.size ah _ _ HRO.out g.out G.out).mono ?_;rintro e ap ⟨aq,rfl,hr,ho_,hg⟩;replace s := ZA (Ebb s.out hg (fun e_ => by have y := Kd.Eal HRO.out _ e_.symm;have z := U.out;omega));replace g := ZA (Ebb g.out hg (fun e_ => by have y := Kd.Eal HRO.out _ e_.symm;have z := G.out;omega));replace t := ZA (Ebb t.out hg (fun e_ => by have y := Kd.Eal HRO.out _ e_.symm;have z := ag.out;omega));replace HB := ZA (HB.out.grown hg HB.out.size (fun k_ hk_ => Nat.le_trans HLE.out (Kd.Eal HRO.out k_ hk_)));clear HRO;have V : Kd.R (Kd.int .i64) 3 ap w8.heap.size (fun _ => True) aq d := (by rw [<- hd];exact hr);obtain ⟨Ad,cd,rfl⟩ := Kd.Eai V;have HRD := ZA V;clear hr V hg ho_;have X := (Ebc g.out 0).trans (show (#[Value.int .i64 a] : Array Value)[0]? = some (.int .i64 a) from rfl))|(go_at_call 71;refine (GB.calls k A1 c1 ls a true _ (Kd.Eac al.out HB.out) am.out ao.out).mono ?_;rintro e E ⟨rfl,hb⟩;replace s := ZA (Eaa s.out hb);replace g := ZA (Eaa g.out hb);replace t := ZA (Eaa t.out hb);replace HB := ZA (Eag HB.out hb);have ai := ZA (Kd.Ebj HRD.out hb);clear HRD X;have HRD := ai;clear ai hb;have X := (Ebc g.out 0).trans (show (#[Value.int .i64 a] : Array Value)[0]? = some (.int .i64 a) from rfl);have aB := (Ebc t.out 0).trans (show (#[Value.int .i64 0,Value.slice none 0 0] : Array Value)[0]? = some (.int .i64 0) from rfl);have aC := (Ebc t.out 1).trans (show (#[Value.int .i64 0,Value.slice none 0 0] : Array Value)[1]? = some (.slice none 0 0) from rfl);have aD := Ea t.out 0;have aE := Ea t.out 1))
  have hml : m.toNat <= d.length := by omega
  have I : (d.take m.toNat).length = m.toNat := by rw [List.length_take,Nat.min_eq_left hml]
  have hcon := fun W' (hW : Below E.heap.size E W') => (FU.calls Ad cd (d.take m.toNat) c W' (by have h_ := Kd.Edb (Kd.Eac (Kd.R_reads' HRD.out).2.2 hW) (m := m.toNat) hml;rw [I];rw [I] at h_;exact h_) (by rw [I];exact Nat.le_trans hml (CR HRD)) aH.out)
  rw [I] at hcon;have HCL := ZA hcon;have hcd := (CR HRD);have P1 := eq_true cm;have P2 := decide_eq_true cm;have Q1 : (m <= (d.length : Int)) = True := eq_true (by omega);have Q2 : decide (m <= (d.length : Int)) = true := decide_eq_true (by omega);have Q3 : (m <= (cd : Int)) = True := eq_true (by omega);have Q4 : decide (m <= (cd : Int)) = true := decide_eq_true (by omega);have J := ZA X;refine Eca (n := 13) (S := fun w' => w'.cell? ⟨g6,0,none⟩ = some (.int .i64 a)) (ds := []) (ZL 13 0) (by kernel_rfl) rfl rfl X (fun hHeld => ?_);refine Eba Fa.tab6 Fa.bits6 (fun HT_ HW_ => ?_);have HBC := ZA (Eam (Below.refl E.heap.size E));clear X aB aC aD aE hcon cm cl cc;generalize E.drew = a3 at HBC hHeld ⊢;refine YT 0 31 (ZL 13 1) rfl rfl HT_ HW_ hHeld ?_;refine YP 1 32 (ZL 13 3) rfl rfl HT_ ?_;refine YP 2 33 (ZL 13 7) rfl rfl HT_ ?_;refine YP 3 34 (ZL 13 15) rfl rfl HT_ ?_;refine YP 4 35 (ZL 13 31) rfl rfl HT_ ?_;refine YT 6 37 (ZL 13 95) rfl rfl HT_ HW_ hHeld ?_;refine Eoi (σ := Value × Value) 5 (ZL 13 255) (fun s_ => [(36,s_.1),(38,s_.2)]) (fun s_ w' => (w'.cell? ⟨g6,0,none⟩ = some (.int .i64 a)) ∧ Kd.R (Kd.int .i64) 3 w' E.heap.size (fun _ => True) s_.1 c ∧ Kd.R (Kd.int .i64) 3 w' E.heap.size (fun _ => True) s_.2 [a] ∧ Below E.heap.size E w') ?_ ?_;rotate_left
  ·intro hCont;refine two_ (i := 5) (j := 7) (Ni := some 36) (Nj := some 38) (ZL 13 127) (ZL 13 223) rfl rfl rfl rfl (Ekb HT_.out (by kernel_rfl)) (by decide) (by decide) (fun K hK => ?_) (fun K hK => ?_)
   ·skip
    refine YS Tryz.func110 #[.slice Ad m.toNat cd] ?_
    with_reducible refine (HCL.out _ HBC.out).mono ?_
    rintro e aJ ⟨aT,rfl,v,hb⟩;refine ⟨_,rfl,?_⟩;obtain ⟨ar,au,rfl⟩ := Kd.Eai v;have Y := ZA (Kd.Eaz v (Ear HBC.out));have HBD := ZA (Eag HBC.out hb);refine hK.out _ _ (show aJ.cell? ⟨g6,0,none⟩ = some (.int .i64 a) from (HBD.out.cell (World.block_lt_of_cell? _ _ J.out)).trans J.out) (fun hHeld => ?_);clear hK K;refine YZ (some 36) ?_;refine ZO 7 38 (ZL 13 255) rfl rfl HT_ fun K hK => ?_
    refine Kd.Edv (Kd.int .i64) (w0 := E) E.heap.size 3 (by rfl) (N := 38) rfl (xs := ([a] : List Int)) (inner := [.int .i64 a]) (ok := fun _ => True) (okp := fun _ => True) (by first|(go_simp;done)|(go_simp;rfl)) (Reps.one (show Kd.M (Kd.int .i64) _ _ _ a [.int .i64 a] from rfl) (Reps.none _ _)) (fun _ hk => hk) trivial HBD.out (Ear HBD.out) (by simp) ?_;intro aU aF Z hbl hgl _;obtain ⟨av,aw,rfl⟩ := Kd.Eai Z;refine hK.out _ _ (show aF.cell? ⟨g6,0,none⟩ = some (.int .i64 a) from (hbl.cell (World.block_lt_of_cell? _ _ J.out)).trans J.out) (fun hHeld => ?_);clear hK K;refine YZ (some 38) ?_;exact Eif (by simp only [Eex,Act.put,zuA,zuB,zuC]) (hCont (.slice ar c.length au,.slice av ([a] : List Int).length aw) _ ⟨hHeld,Kd.Ekh Y.out hgl (fun _ _ => by simp),Z,hbl⟩)
   skip
   refine Kd.Edv (Kd.int .i64) (w0 := E) E.heap.size 3 (by rfl) (N := 38) rfl (xs := ([a] : List Int)) (inner := [.int .i64 a]) (ok := fun _ => True) (okp := fun _ => True) (by first|(go_simp;done)|(go_simp;rfl)) (Reps.one (show Kd.M (Kd.int .i64) _ _ _ a [.int .i64 a] from rfl) (Reps.none _ _)) (fun _ hk => hk) trivial HBC.out (Ear HBC.out) (by simp) ?_;intro aU aJ Z hbl hgl _;obtain ⟨av,aw,rfl⟩ := Kd.Eai Z;have HBL := ZA hbl;refine hK.out _ _ (show aJ.cell? ⟨g6,0,none⟩ = some (.int .i64 a) from (hbl.cell (World.block_lt_of_cell? _ _ J.out)).trans J.out) (fun hHeld => ?_);clear hK K;refine YZ (some 38) ?_;refine ZO 5 36 (ZL 13 255) rfl rfl HT_ fun K hK => ?_
   refine YS Tryz.func110 #[.slice Ad m.toNat cd] ?_
   with_reducible refine (HCL.out _ HBL.out).mono ?_
   rintro e aF ⟨aT,rfl,v,hb⟩;refine ⟨_,rfl,?_⟩;obtain ⟨ar,au,rfl⟩ := Kd.Eai v;have Y := ZA (Kd.Eaz v (Ear HBL.out));have HBD := ZA (Eag HBL.out hb);refine hK.out _ _ (show aF.cell? ⟨g6,0,none⟩ = some (.int .i64 a) from (HBD.out.cell (World.block_lt_of_cell? _ _ J.out)).trans J.out) (fun hHeld => ?_);clear hK K;refine YZ (some 36) ?_;exact Eif (by simp only [Eex,Act.put,zuA,zuB,zuC]) (hCont (.slice ar c.length au,.slice av ([a] : List Int).length aw) _ ⟨hHeld,Y.out,Kd.Ebj Z hb,HBD.out⟩)
  rintro ⟨aT,aU⟩ aF ⟨hHeld,v,ab,ax⟩
  dsimp only at v ab
  obtain ⟨ar,au,rfl⟩ := Kd.Eai v;obtain ⟨av,aw,rfl⟩ := Kd.Eai ab;have Y := ZA v;have aK := ZA ab;have ay := ZA ax;clear v ab ax;refine Eif (a' := ?_) ?_ ?_;rotate_left
  ·simp only [Eex,Act.put,zuA,zuB,zuC];rfl
  refine ZO 8 39 (ZL 13 511) rfl rfl HT_ fun K hK => ?_
  refine Kd.Efg (Kd.int .i64) (Rr := fun x_ cs_ => cs_ = [Value.int .i64 x_]) (w0 := E) E.heap.size (by rfl) (.tmp 36) (.tmp 38) 28 3 (.int .i64 0) 8 rfl Tryz.underlying28 info3 rfl (by decide) (by omega) (.slice ar c.length au) c [a] av ([a] : List Int).length aw (fun _ => True) (fun _ => False) rfl rfl Y.out (Kd.R_reads' aK.out).2.2 (fun _ _ hk => hk) (fun _ hk => hk.elim) (fun _ _ => trivial) ay.out (Ear ay.out) (by have := LM.out;simp only [List.length_singleton];omega) ?_;intro a4 aV aj az aL _;obtain ⟨aW,aX,rfl⟩ := Kd.Eai aj;have aA := ZA aj;have ac := ZA az;clear aj az aL;refine hK.out _ _ (show aV.cell? ⟨g6,0,none⟩ = some (.int .i64 a) from (ac.out.cell (World.block_lt_of_cell? _ _ J.out)).trans J.out) (fun hHeld => ?_);clear hK K;refine YZ (some 39) ?_;refine ZO 9 40 (ZL 13 1023) rfl rfl HT_ fun K hK => ?_
  refine YS Tryz.func100 #[.slice aW (c ++ [a]).length aX] ?_
  with_reducible refine (Fi.calls aW aX (c ++ [a]) q _ (Kd.R_reads' aA.out).2.2 (CR aA) aI.out).mono ?_
  rintro e a0 ⟨a5,rfl,ak,hb⟩;refine ⟨_,rfl,?_⟩;obtain ⟨a1,a2,rfl⟩ := Kd.Eai ak;have ad := ZA (Eag ac.out hb);have aM := ZA (Kd.Eaj (ok' := fun k_ => k_ ≠ g8) (Kd.Ede ak) (fun k_ hk_ => (by have y := Eau t.out;have z := Ear ac.out;have a6 := hk_.2.1;omega)));have aN := ZA (show w.heap.size <= aV.heap.size from Nat.le_trans (Ear HB.out) (Ear ac.out));have BK8' := ZA (Eaa t.out ad.out);have BK6' := ZA (Eaa g.out ad.out);clear ak hb;refine hK.out _ _ (show a0.cell? ⟨g6,0,none⟩ = some (.int .i64 a) from (ad.out.cell (World.block_lt_of_cell? _ _ J.out)).trans J.out) (fun hHeld => ?_);clear hK K;refine YZ (some 40) ?_;refine YP 10 41 (ZL 13 2047) rfl rfl HT_ ?_;have aB := (Ebc BK8'.out 0).trans (show (#[Value.int .i64 0,Value.slice none 0 0] : Array Value)[0]? = some (.int .i64 0) from rfl);have aC := (Ebc BK8'.out 1).trans (show (#[Value.int .i64 0,Value.slice none 0 0] : Array Value)[1]? = some (.slice none 0 0) from rfl);have aD := Ea BK8'.out 0;have aE := Ea BK8'.out 1;refine one_ (i := 11) (N := none) (ZL 13 4095) rfl rfl (Ee HT_.out (by kernel_rfl)) (by decide) (fun K hK => ?_);refine Egl (w1 := ?_) (by rfl) rfl ?_ ?_;rotate_left
  ·go_simp
   rfl
  refine hK.out _ _ ((Ebc (Eas (Eas BK6'.out (p := ⟨g8,0,none⟩) aa.out _) (p := ⟨g8,1,none⟩) aa.out _) 0).trans rfl) (fun hHeld => ?_);clear hK K;refine YP 12 9 (ZL 13 8191) rfl rfl HT_ ?_;refine Ecy (Ebi HT_.out (by kernel_rfl)) ?_
  try go_wp2
  refine bodyPost_ret (Ecf rfl _ _ g8 30 #[.int .i64 a,.slice a1 q.length a2] (0,0) _ rfl (by refine Eae (cs := #[.int .i64 a,.slice none 0 0]) ?_ 1 _ rfl;refine Eae (cs := #[.int .i64 0,.slice none 0 0]) ?_ 0 _ rfl;exact BK8'.out) Tryz.underlying30 rfl (by kernel_rfl)) rfl ?_;exact ⟨_,by first|rfl|(simp;done),Kd.Eaj (Kd.Eaz (Kd.Ebd (p := ⟨g8,1,none⟩) (Kd.Ebd (p := ⟨g8,0,none⟩) aM.out (fun _ hk => hk) _) (fun _ hk => hk) _) aN.out) (fun _ _ => trivial),Ebh (Ebh (Eag HB.out ad.out) af.out) af.out⟩
end Go.Proofs.YtgnijnlgbelifaaGreat.Q
