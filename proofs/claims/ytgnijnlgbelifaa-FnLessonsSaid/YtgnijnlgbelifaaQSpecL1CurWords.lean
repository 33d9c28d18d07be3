-- Written for the seat Ytgnijnlgbelifaa by a program of this session (wip/tool/gx.py) out of the translation. Lean checks it.
import Derived.Test.YtgnijnlgbelifaaQ0
import Derived.Test.YtgnijnlgbelifaaGPeel
import Derived.Test.YtgnijnlgbelifaaGCall
import Derived.Test.YtgnijnlgbelifaaQBLawsBig
import Derived.Laws.DeepStrings4
import Derived.Test.YtgnijnlgbelifaaWTab
import Derived.Test.YtgnijnlgbelifaaWApart
import Derived.Test.YtgnijnlgbelifaaWKept
import Derived.Test.YtgnijnlgbelifaaWShare
import Derived.Test.YtgnijnlgbelifaaWN
import Derived.Test.YtgnijnlgbelifaaWRepsOne
import Derived.Test.YtgnijnlgbelifaaWNEv
namespace Go.Proofs.Ytgnijnlgbelifaa.Q
open Go.RowKit Go.Proofs.YtgnijnlgbelifaaW.PrintWords Go.Proofs.YtgnijnlgbelifaaW.PrintLast Go.Proofs.YtgnijnlgbelifaaW.PrintMore Go.Proofs.YtgnijnlgbelifaaW.GCall
attribute [local go_sem] max2_int min2_int max_two min_two max_three min_three max_four min_four   -- for this text's walks alone
set_option linter.unusedVariables false
set_option linter.unusedSimpArgs false

/-! ### spec_l1Cur_words: function 21 -/
mutual
def spec_l1Cur_words.l0 : Nat → List (S43) → List ByteArray → Int → Int → List Int → Int → Int → Option ((List (S43)) × Int × Int)
 | 0,_,_,_,_,_,_,_ => none
 | k + 1,x3,x4,x5,x6,x1000,x1001,x1002 => if x6 < x5 then (if 0 ≤ x6 then (if x6 < (x4.length : Int) then ((spec_l1Cur_among.f x1000 x1001 x1002 (([0,1,10,10,50,500,99999] : List Int))).bind fun bt111 => (spec_l1Cur_words.l1 k x3 x4 x5 x6 0 x1000 bt111.2.1 bt111.2.2 (rdOf ByteArray.empty x4 x6) ([] : List Int) bt111.1)) else (none)) else (none)) else (if x5 > 0 then ((spec_l1Cur_pick.f x1000 x1001 x1002 x5).bind fun bt124 => ((spec_l1Cur_pick.f x1000 bt124.2.1 bt124.2.2 16).bind fun bt127 => (if bt127.1 = 0 then (if 0 ≤ bt124.1 then (if bt124.1 < (x3.length : Int) then ((spec_l1Cur_pick.f x1000 bt127.2.1 bt127.2.2 x5).bind fun bt131 => ((spec_l1Put.f k ((rd_T43 x3 bt124.1).f1) bt131.1).bind fun t134 => (some ((x3.set (bt124.1 : Int).toNat (⟨(rd_T43 x3 bt124.1).f0,t134,(rd_T43 x3 bt124.1).f2⟩ : S43)),bt131.2.1,bt131.2.2)))) else (none)) else (none)) else (if bt127.1 = 1 then (if 0 ≤ bt124.1 then (if bt124.1 < (x3.length : Int) then ((spec_l1Cur_among.f x1000 bt127.2.1 bt127.2.2 (([(-1),x5,0] : List Int))).bind fun bt142 => (if ((rd_T43 x3 bt124.1).f1).length < 17592186044416 then (some ((x3.set (bt124.1 : Int).toNat (⟨(rd_T43 x3 bt124.1).f0,(((rd_T43 x3 bt124.1).f1) ++ [bt142.1]),(rd_T43 x3 bt124.1).f2⟩ : S43)),bt142.2.1,bt142.2.2)) else (none))) else (none)) else (none)) else (if bt127.1 = 2 then ((spec_l1Cur_anyGloss.f x1000 bt127.2.1 bt127.2.2).bind fun bt149 => (if 0 ≤ bt124.1 then (if bt124.1 < (x3.length : Int) then (some ((x3.set (bt124.1 : Int).toNat (⟨bt149.1,(rd_T43 x3 bt124.1).f1,(rd_T43 x3 bt124.1).f2⟩ : S43)),bt149.2.1,bt149.2.2)) else (none)) else (none))) else (if bt127.1 = 3 then ((spec_l1Cur_among.f x1000 bt127.2.1 bt127.2.2 (([(-1),100000] : List Int))).bind fun bt156 => (if 0 ≤ bt124.1 then (if bt124.1 < (x3.length : Int) then (some ((x3.set (bt124.1 : Int).toNat (⟨(rd_T43 x3 bt124.1).f0,(rd_T43 x3 bt124.1).f1,bt156.1⟩ : S43)),bt156.2.1,bt156.2.2)) else (none)) else (none))) else (if bt127.1 = 4 then ((spec_l1Cur_pick.f x1000 bt127.2.1 bt127.2.2 2).bind fun bt160 => (spec_l1Cur_words.l2 k ([] : List (S43)) (wrap64 (16 + bt160.1)) x1000 bt160.2.1 bt160.2.2)) else (some (x3,bt127.2.1,bt127.2.2))))))))) else (some (x3,x1001,x1002)))
def spec_l1Cur_words.l1 : Nat → List (S43) → List ByteArray → Int → Int → Int → List Int → Int → Int → ByteArray → List Int → Int → Option ((List (S43)) × Int × Int)
 | 0,_,_,_,_,_,_,_,_,_,_,_ => none
 | k + 1,x3,x4,x5,x6,x8,x1000,x1001,x1002,x115000,x115001,x115002 => if x8 < x6 then ((spec_l1Cur_one.f x1000 x1001 x1002 3).bind fun bt115 => (if bt115.1 = true then (if x115001.length < 17592186044416 then (spec_l1Cur_words.l1 k x3 x4 x5 x6 (wrap64 (x8 + 1)) x1000 bt115.2.1 bt115.2.2 x115000 (x115001 ++ [x8]) x115002) else (none)) else (spec_l1Cur_words.l1 k x3 x4 x5 x6 (wrap64 (x8 + 1)) x1000 bt115.2.1 bt115.2.2 x115000 x115001 x115002))) else (if x3.length < 2932031007402 then (spec_l1Cur_words.l0 k (x3 ++ [(⟨x115000,x115001,x115002⟩ : S43)]) x4 x5 (wrap64 (x6 + 1)) x1000 x1001 x1002) else (none))
def spec_l1Cur_words.l2 : Nat → List (S43) → Int → List Int → Int → Int → Option ((List (S43)) × Int × Int)
 | 0,_,_,_,_,_ => none
 | k + 1,x3,x10,x1000,x1001,x1002 => if (x3.length : Int) < x10 then (if 0 ≤ (x3.length : Int) then (if (x3.length : Int) ≤ (wrap64 ((x3.length : Int) + 1)) then (if (wrap64 ((x3.length : Int) + 1)) ≤ 17 then (if 1 + ((⟨#[65,66,67,68,69,70,71,72,73,74,75,76,77,78,79,80,81]⟩ : ByteArray).extract x3.length (x3.length + 1)).size ≤ 9223372036854775807 then (if x3.length < 2932031007402 then (spec_l1Cur_words.l2 k (x3 ++ [(⟨(⟨#[88]⟩ : ByteArray) ++ ((⟨#[65,66,67,68,69,70,71,72,73,74,75,76,77,78,79,80,81]⟩ : ByteArray).extract x3.length (x3.length + 1)),([] : List Int),5⟩ : S43)]) x10 x1000 x1001 x1002) else (none)) else (none)) else (none)) else (none)) else (none)) else (some (x3,x1001,x1002))
end
def spec_l1Cur_words.f (k : Nat) (s0_0 : List Int) (s0_1 : Int) (s0_2 : Int) : Option ((List (S43)) × Int × Int) := (some (([(⟨#[83,85,78]⟩ : ByteArray),(⟨#[72,79,85,83,69]⟩ : ByteArray),(⟨#[84,82,69,69]⟩ : ByteArray),(⟨#[82,65,73,78]⟩ : ByteArray),(⟨#[66,79,79,75]⟩ : ByteArray),(⟨#[69,73,71,72,84,76,69,84]⟩ : ByteArray),(⟨#[65]⟩ : ByteArray)] : List ByteArray) : List ByteArray)).bind fun y101 => ((spec_l1Cur_pick.f s0_0 s0_1 s0_2 (wrap64 ((y101.length : Int) + 1))).bind fun bt104 => (spec_l1Cur_words.l0 k ([] : List (S43)) y101 bt104.1 0 s0_0 bt104.2.1 bt104.2.2))
theorem spec_l1Cur_words.mono_l : ∀ k,(∀ y0 y1 y2 y3 y4 y5 y6,LeO (spec_l1Cur_words.l0 k y0 y1 y2 y3 y4 y5 y6) (spec_l1Cur_words.l0 (k + 1) y0 y1 y2 y3 y4 y5 y6)) ∧ (∀ y0 y1 y2 y3 y4 y5 y6 y7 y8 y9 y10,LeO (spec_l1Cur_words.l1 k y0 y1 y2 y3 y4 y5 y6 y7 y8 y9 y10) (spec_l1Cur_words.l1 (k + 1) y0 y1 y2 y3 y4 y5 y6 y7 y8 y9 y10)) ∧ (∀ y0 y1 y2 y3 y4,LeO (spec_l1Cur_words.l2 k y0 y1 y2 y3 y4) (spec_l1Cur_words.l2 (k + 1) y0 y1 y2 y3 y4))
 | 0 => ⟨fun _ _ _ _ _ _ _ r h => by simp [spec_l1Cur_words.l0] at h,fun _ _ _ _ _ _ _ _ _ _ _ r h => by simp [spec_l1Cur_words.l1] at h,fun _ _ _ _ _ r h => by simp [spec_l1Cur_words.l2] at h⟩
 | k + 1 => by
  obtain ⟨ih0,ih1,ih2⟩ := spec_l1Cur_words.mono_l k
  refine ⟨?_,?_,?_⟩ <;> intros
  all_goals first|unfold spec_l1Cur_words.l0|unfold spec_l1Cur_words.l1|unfold spec_l1Cur_words.l2
  with_reducible repeat' first|apply ih0|apply ih1|apply ih2|apply LeO.refl|apply spec_l1Put.mono|apply LeO.none|refine LeO.ite ?_ ?_|refine LeO.bind ?_ (fun _ => ?_)
theorem spec_l1Cur_words.mono : ∀ a0 a1 a2 k,LeO (spec_l1Cur_words.f k a0 a1 a2) (spec_l1Cur_words.f (k + 1) a0 a1 a2) := by
 intro a0 a1 a2 k
 obtain ⟨ih0,ih1,ih2⟩ := spec_l1Cur_words.mono_l k
 unfold spec_l1Cur_words.f
 with_reducible repeat' first|apply ih0|apply ih1|apply ih2|apply LeO.refl|apply spec_l1Put.mono|apply LeO.none|refine LeO.ite ?_ ?_|refine LeO.bind ?_ (fun _ => ?_)
def spec_l1Cur_words.T7 : Bool × List (List Nat × List Nat) := (true,[([],[]),([],[]),([0,1],[0,1]),([2],[2]),([],[]),([],[]),([4,5],[4,5]),([3,6],[3,6]),([],[]),([8,7,6,0,1,2,3,4,5,6,7,8],[7,8])])
def spec_l1Cur_words.B7 : List Nat := [0,0,3,7,0,0,48,127,0,511]
theorem spec_l1Cur_words.tab7 : rtab .any (opsOf Try.f21 7) = spec_l1Cur_words.T7 := by kernel_rfl
theorem spec_l1Cur_words.bits7 : waitsOk spec_l1Cur_words.T7.2 spec_l1Cur_words.B7 = true := by kernel_rfl
def spec_l1Cur_words.T18 : Bool × List (List Nat × List Nat) := (true,[([],[]),([],[]),([],[]),([],[]),([2,3],[2,3]),([4],[4]),([5],[5]),([],[]),([],[]),([7,8],[7,8]),([6,9,9],[6,9]),([0,1,0,1,2,3,4,5,6,7,8,9,10],[0,1]),([11,0,1,2,3,4,5,6,7,8,9,10],[11]),([12,10,10,0,1,2,3,4,5,6,7,8,9,10],[10,12])])
def spec_l1Cur_words.T20 : Bool × List (List Nat × List Nat) := (true,[([],[]),([],[]),([],[]),([],[]),([2,3],[2,3]),([4],[4]),([5],[5]),([],[]),([],[]),([8],[8]),([7,9],[7,9]),([10],[10]),([6,11,10],[6,11]),([0,1,0,1,2,3,4,5,6,7,8,9,10,11,12],[0,1]),([13,0,1,2,3,4,5,6,7,8,9,10,11,12],[13]),([14,12,12,0,1,2,3,4,5,6,7,8,9,10,11,12],[12,14])])
def spec_l1Cur_words.B18 : List Nat := [0,0,0,0,12,28,60,0,0,384,1020,2047,4095,8191]
def spec_l1Cur_words.B20 : List Nat := [0,0,0,0,12,28,60,0,0,256,896,1920,4092,8191,16383,32767]
theorem spec_l1Cur_words.tab18 : rtab .any (opsOf Try.f21 18) = spec_l1Cur_words.T18 := by kernel_rfl
theorem spec_l1Cur_words.tab20 : rtab .any (opsOf Try.f21 20) = spec_l1Cur_words.T20 := by kernel_rfl
theorem spec_l1Cur_words.bits18 : waitsOk spec_l1Cur_words.T18.2 spec_l1Cur_words.B18 = true := by kernel_rfl
theorem spec_l1Cur_words.bits20 : waitsOk spec_l1Cur_words.T20.2 spec_l1Cur_words.B20 = true := by kernel_rfl
set_option maxHeartbeats 3000000 in
set_option maxRecDepth 100000 in
theorem spec_l1Cur_words.calls (k : Nat) (g : Nat) (s0_0 : List Int) (s0_1 : Int) (s0_2 : Int) (r1 : List (S43)) (r2 : Int) (r3 : Int) (w0 w : World) (hI : IsS49 w0 w g s0_0 s0_1 s0_2) (hB : Below w0.heap.size w0 w) (h : spec_l1Cur_words.f k s0_0 s0_1 s0_2 = some (r1,r2,r3)) :
  Calls Try.prog 21 #[.pointer (some ⟨g,0,none⟩)] w fun e w' => ∃ v0_ : Value,e = .returned (v0_) ∧ Kd.N k43 43 w' w.heap.size (fun k_ => (w.heap.size ≤ k_)) v0_ r1 ∧ IsS49 w0 w' g s0_0 r2 r3 ∧ Below w0.heap.size w0 w' ∧ KeepBut w w' g none := by
 have hu43 := Try.underlying43
 have hus_ := Try.underlying9
 have HI0 := Aside0.mk hI
 have HK := Aside0.mk (KeepBut.refl w g none)
 have HL := Aside0.mk hB.size
 clear hI
 have HW0 := Aside0.mk hB.size
 have HB := Aside0.mk hB
 clear hB
 have H : ((some (([(⟨#[83,85,78]⟩ : ByteArray),(⟨#[72,79,85,83,69]⟩ : ByteArray),(⟨#[84,82,69,69]⟩ : ByteArray),(⟨#[82,65,73,78]⟩ : ByteArray),(⟨#[66,79,79,75]⟩ : ByteArray),(⟨#[69,73,71,72,84,76,69,84]⟩ : ByteArray),(⟨#[65]⟩ : ByteArray)] : List ByteArray) : List ByteArray)).bind fun y101 => ((spec_l1Cur_pick.f s0_0 s0_1 s0_2 (wrap64 ((y101.length : Int) + 1))).bind fun bt104 => (spec_l1Cur_words.l0 k ([] : List (S43)) y101 bt104.1 0 s0_0 bt104.2.1 bt104.2.2))) = some (r1,r2,r3) := h
 clear h
 obtain ⟨y101,hy101⟩ : ∃ y_ : List ByteArray,y_ = (([(⟨#[83,85,78]⟩ : ByteArray),(⟨#[72,79,85,83,69]⟩ : ByteArray),(⟨#[84,82,69,69]⟩ : ByteArray),(⟨#[82,65,73,78]⟩ : ByteArray),(⟨#[66,79,79,75]⟩ : ByteArray),(⟨#[69,73,71,72,84,76,69,84]⟩ : ByteArray),(⟨#[65]⟩ : ByteArray)] : List ByteArray)) := ⟨_,rfl⟩
 replace H : ((spec_l1Cur_pick.f s0_0 s0_1 s0_2 (wrap64 ((y101.length : Int) + 1))).bind fun bt104 => (spec_l1Cur_words.l0 k ([] : List (S43)) y101 bt104.1 0 s0_0 bt104.2.1 bt104.2.2)) = some (r1,r2,r3) := by first|(rw [hy101];with_reducible exact H)|(have H2_ := (Option.bind_some _ _).symm.trans H;rw [hy101];with_reducible exact H2_)|(have H2_ := (Option.bind_some _ _).symm.trans H;with_reducible exact H2_)|with_reducible exact H|(rw [hy101];exact H)|exact H
 have Ny101 := Aside0.mk hy101
 clear hy101
 replace H := Option.bind_eq_some_iff.mp H
 obtain ⟨⟨t104,t105,t106⟩,A20,H⟩ := H
 try dsimp only at H
 have A2 := Aside0.mk A20
 clear A20
 have H' := Aside0.mk H
 clear H
 go_enter Try.func21,Try.ntmps21
 go_wp2_with (first|((with_reducible refine gate_dst (N := 11) rfl ?_);refine Kd.R_lit Kd.string _ 9 ?hg (N := 11) ?hd (xs := ([(⟨#[83,85,78]⟩ : ByteArray),(⟨#[72,79,85,83,69]⟩ : ByteArray),(⟨#[84,82,69,69]⟩ : ByteArray),(⟨#[82,65,73,78]⟩ : ByteArray),(⟨#[66,79,79,75]⟩ : ByteArray),(⟨#[69,73,71,72,84,76,69,84]⟩ : ByteArray),(⟨#[65]⟩ : ByteArray)] : List ByteArray)) (inner := [.string (⟨#[83,85,78]⟩ : ByteArray),.string (⟨#[72,79,85,83,69]⟩ : ByteArray),.string (⟨#[84,82,69,69]⟩ : ByteArray),.string (⟨#[82,65,73,78]⟩ : ByteArray),.string (⟨#[66,79,79,75]⟩ : ByteArray),.string (⟨#[69,73,71,72,84,76,69,84]⟩ : ByteArray),.string (⟨#[65]⟩ : ByteArray)]) (ok := fun _ => True) (okp := fun _ => True) ?hr ?hp (fun _ hk => hk) trivial (Below.refl _ _) (Nat.le_refl _) (by simp) ?_;(case hd => rfl);(case hg => rfl);(case hr => first|(go_simp;done)|(go_simp;rfl));(case hp => exact (Reps.one (show Kd.M Kd.string _ _ _ (⟨#[83,85,78]⟩ : ByteArray) [.string (⟨#[83,85,78]⟩ : ByteArray)] from rfl) (Reps.one (show Kd.M Kd.string _ _ _ (⟨#[72,79,85,83,69]⟩ : ByteArray) [.string (⟨#[72,79,85,83,69]⟩ : ByteArray)] from rfl) (Reps.one (show Kd.M Kd.string _ _ _ (⟨#[84,82,69,69]⟩ : ByteArray) [.string (⟨#[84,82,69,69]⟩ : ByteArray)] from rfl) (Reps.one (show Kd.M Kd.string _ _ _ (⟨#[82,65,73,78]⟩ : ByteArray) [.string (⟨#[82,65,73,78]⟩ : ByteArray)] from rfl) (Reps.one (show Kd.M Kd.string _ _ _ (⟨#[66,79,79,75]⟩ : ByteArray) [.string (⟨#[66,79,79,75]⟩ : ByteArray)] from rfl) (Reps.one (show Kd.M Kd.string _ _ _ (⟨#[69,73,71,72,84,76,69,84]⟩ : ByteArray) [.string (⟨#[69,73,71,72,84,76,69,84]⟩ : ByteArray)] from rfl) (Reps.one (show Kd.M Kd.string _ _ _ (⟨#[65]⟩ : ByteArray) [.string (⟨#[65]⟩ : ByteArray)] from rfl) (Reps.none _ _)))))))));intro v102 w3 ho4 hb hg_ hnew_;clear hg_ hnew_;(first|rw [← Ny101.out] at ho4|(simp only [Int.reduceToNat] at ho4;rw [← Ny101.out] at ho4));have HO103 := Aside0.mk (Kd.R_lower ho4 (keep_size (w := w) (g := g) (row := none) (ZW HK)));replace HK := Aside0.mk (KeepBut.trans (ZW HK) (KeepBut.of_below hb g none) (.inl rfl));replace HB := Aside0.mk (below_step (by repeat (first|(with_reducible first|exact HB.out|apply zbA|apply zbB|apply zbC|refine below_set ?_ (IsS49.ge HI0.out))|exact HB.out)) hb);replace HI0 := Aside0.mk (IsS49.below (ZS HI0) hb);clear hb ho4;obtain ⟨Ao5,co5,eo5⟩ := Kd.R_slice HO103.out;subst eo5)|((with_reducible refine gate_callee (f := 42) rfl ?_);refine goesM_ (some 16) Try.func42 #[.pointer (some ⟨g,0,none⟩),.int .i64 (wrap64 ((y101.length : Int) + 1))] ?_;(with_reducible refine (spec_l1Cur_pick.calls g s0_0 s0_1 s0_2 (wrap64 ((y101.length : Int) + 1)) t104 t105 t106 w0 _ ?side1 ?side2 A2.out).mono ?_);(case side1 => repeat (first|(with_reducible first|exact HI0.out|apply zsA|apply zsB|apply zsC|apply zsD|apply zsE)|exact HI0.out));(case side2 => repeat (first|(with_reducible first|exact HB.out|apply zbA|apply zbB|apply zbC|refine below_set ?_ (IsS49.ge HI0.out))|exact HB.out));rintro e w6 ⟨rfl,hi,hb,hk⟩;refine ⟨_,rfl,?_⟩;replace HO103 := Aside0.mk (Kd.R_mono (Kd.R_keep (IsS49.apart (show IsS49 w0 _ g s0_0 s0_1 s0_2 from ZS HI0) (ZK HO103) (by decide)) hk (fun _ h => h.2)) (fun _ h => h.1));replace HK := Aside0.mk (KeepBut.trans (ZW HK) hk (.inl rfl));replace HB := Aside0.mk (hb);replace HI0 := Aside0.mk (hi);(try clear hb)))
 go_loopg [3,6] k (fun kq v3 v6 w' => ∃ (x3_1 : List (S43)) (x6_1 : Int) (x1001_1 : Int) (x1002_1 : Int),v6 = .int .i64 x6_1 ∧ Aside0 (spec_l1Cur_words.l0 kq x3_1 y101 t104 x6_1 s0_0 x1001_1 x1002_1 = some (r1,r2,r3)) ∧ Aside0 (kq ≤ k) ∧ Aside0 (Kd.S k43 43 w' w.heap.size (fun _ => True) v3 x3_1) ∧ Aside0 (Kd.R Kd.string 9 w' w.heap.size (fun _ => True) (.slice Ao5 y101.length co5) y101) ∧ Aside0 (IsS49 w0 w' g s0_0 x1001_1 x1002_1) ∧ Aside0 (KeepBut w w' g none) ∧ Aside0 (Below w0.heap.size w0 w'))
 case atStart => exact ⟨(([] : List (S43))),(0),(t105),(t106),(by first|rfl|(simp;done)|(simp [*];done)),H',⟨Nat.le_refl _⟩,⟨by first|exact Kd.S_nil _ _ _ _ _|exact Kd.N_nil _ _ _ _ _|exact Kd.V_nil _ _ _ _ _|exact Kd.Q_nil _ _ _ _ _|exact Kd.R_nil _ _ _ _ _⟩,⟨ZK HO103⟩,⟨ZS HI0⟩,⟨ZW HK⟩,⟨by repeat (first|(with_reducible first|exact HB.out|apply zbA|apply zbB|apply zbC|refine below_set ?_ (IsS49.ge HI0.out))|exact HB.out)⟩⟩
 case round =>
  clear H'
  obtain ⟨x3_1,x6_1,x1001_1,x1002_1,rfl,HA,HK1,HO_3,HO_4,HI0,HK,HB⟩ := hrel
  cases gk with
  | zero => exact absurd HA.out (by simp [spec_l1Cur_words.l0])
  | succ k1 =>
   have H := HA.out
   clear HA
   simp only [spec_l1Cur_words.l0] at H
   by_cases c7 : x6_1 < t104
   ·rw [if_pos c7] at H
    have c7b0 := decide_eq_true c7
    clear c7
    by_cases c8 : 0 ≤ x6_1;rotate_left
    ·rw [if_neg c8] at H
     exact absurd H (by simp)
    rw [if_pos c8] at H
    have c8b0 : decide (0 ≤ x6_1) = true := decide_eq_true c8
    clear c8
    by_cases c9 : x6_1 < (y101.length : Int);rotate_left
    ·rw [if_neg c9] at H
     exact absurd H (by simp)
    rw [if_pos c9] at H
    have c9b0 : decide (x6_1 < (y101.length : Int)) = true := decide_eq_true c9
    clear c9
    obtain ⟨y108,hy108⟩ : ∃ y_ : List Int,y_ = (([0,1,10,10,50,500,99999] : List Int)) := ⟨_,rfl⟩
    replace H : ((spec_l1Cur_among.f s0_0 x1001_1 x1002_1 y108).bind fun bt111 => (spec_l1Cur_words.l1 k1 x3_1 y101 t104 x6_1 0 s0_0 bt111.2.1 bt111.2.2 (rdOf ByteArray.empty y101 x6_1) ([] : List Int) bt111.1)) = some (r1,r2,r3) := by first|(rw [hy108];with_reducible exact H)|(have H2_ := (Option.bind_some _ _).symm.trans H;rw [hy108];with_reducible exact H2_)|(have H2_ := (Option.bind_some _ _).symm.trans H;with_reducible exact H2_)|with_reducible exact H|(rw [hy108];exact H)|exact H
    have Ny108 := Aside0.mk hy108
    clear hy108
    replace H := Option.bind_eq_some_iff.mp H
    obtain ⟨⟨t111,t112,t113⟩,A100,H⟩ := H
    try dsimp only at H
    have A10 := Aside0.mk A100
    clear A100
    have H' := Aside0.mk H
    clear H
    try go_wp2
    replace HO_3 := Aside0.mk (Kd.S_drew HO_3.out)
    replace HO_4 := Aside0.mk (Kd.R_drew HO_4.out)
    replace HI0 := Aside0.mk (IsS49.drew HI0.out)
    replace HK := Aside0.mk (keep_drew HK.out)
    replace HB := Aside0.mk (below_drew1 HB.out)
    have p107 : 0 ≤ (x6_1 : Int) := ZD
    have q107 : x6_1 < (y101.length : Int) := ZD
    obtain ⟨ad107,e107,hx107_0⟩ := Kd.at_string (Kd.R_reads' HO_4.out).2.2 x6_1 p107 q107
    cases e107
    replace p107 := eq_true p107
    replace q107 := eq_true q107
    refine start_ (n := 10) (S := fun w' => w'.cell? (ad107.add (x6_1).toNat) = some (.string (rdOf ByteArray.empty y101 x6_1))) (ds := []) #[X,X,X,X,X,X,X,X,X,X] (by kernel_rfl) rfl rfl (hx107_0) (fun hHeld => ?_);refine with_tabW spec_l1Cur_words.tab7 spec_l1Cur_words.bits7 (fun HT_ HW_ => ?_)
    generalize wr.drew = w11 at HO_3 HO_4 HI0 HK HB hx107_0 hHeld ⊢
    refine YP 0 22 #[Y,X,X,X,X,X,X,X,X,X] rfl rfl HT_ ?_
    refine YP 1 23 #[Y,Y,X,X,X,X,X,X,X,X] rfl rfl HT_ ?_
    refine YP 2 24 #[Y,Y,Y,X,X,X,X,X,X,X] rfl rfl HT_ ?_
    refine YP 4 26 #[Y,Y,Y,X,Y,X,X,X,X,X] rfl rfl HT_ ?_
    refine YT 3 25 #[Y,Y,Y,Y,Y,X,X,X,X,X] rfl rfl HT_ HW_ hHeld ?_
    refine join_ (σ := Value × Nat) 1 #[Y,Y,Y,Y,Y,Y,Y,Y,Y,X] (fun s_ => [(27,s_.1),(28,.int .i64 t111),(7,.pointer (some ⟨s_.2,0,none⟩)),(29,.agg #[.string (rdOf ByteArray.empty y101 x6_1),.slice none 0 0,.int .i64 t111])]) (fun s_ w' => (w'.cell? (ad107.add (x6_1).toNat) = some (.string (rdOf ByteArray.empty y101 x6_1))) ∧ (Kd.R (Kd.int .i64) 3 w' w.heap.size (fun _ => True) s_.1 y108) ∧ (Kd.S k43 43 w' w.heap.size (fun k_ => some k_ ≠ (s_.1 : Value).ownBlock ∧ k_ ≠ s_.2) u3 x3_1) ∧ (Kd.R Kd.string 9 w' w.heap.size (fun _ => True) (.slice (some ad107) y101.length co5) y101) ∧ (w'.heap[s_.2]? = some (.cells #[.string (⟨#[]⟩ : ByteArray),.slice none 0 0,.int .i64 0] 43 (0,0))) ∧ (w.heap.size ≤ s_.2) ∧ (w0.heap.size ≤ s_.2) ∧ (g ≠ s_.2) ∧ (s_.2 ≠ g) ∧ (IsS49 w0 w' g s0_0 t112 t113) ∧ (KeepBut w w' g none) ∧ (Below w0.heap.size w0 w')) ?_ ?_
    rotate_left
    ·intro hCont
     refine two_ (i := 5) (j := 8) (Ni := some 27) (Nj := some 7) #[Y,Y,Y,Y,Y,Y,X,X,X,X] #[Y,Y,Y,Y,Y,X,X,X,Y,X] rfl rfl rfl rfl (two_of HT_.out (by kernel_rfl)) (by decide) (by decide) (fun K hK => ?_) (fun K hK => ?_)
     ·skip
      refine Kd.R_lit_step (Kd.int .i64) _ 3 ?hg (N := 27) ?hd (xs := ([0,1,10,10,50,500,99999] : List Int)) (inner := [.int .i64 0,.int .i64 1,.int .i64 10,.int .i64 10,.int .i64 50,.int .i64 500,.int .i64 99999]) (ok := fun _ => True) (okp := fun _ => True) ?hr ?hp (fun _ hk => hk) trivial (Below.refl _ _) (Nat.le_refl _) (by simp) ?_;(case hd => rfl);(case hg => rfl);(case hr => first|(go_simp;done)|(go_simp;rfl));(case hp => exact (Reps.one (show Kd.M (Kd.int .i64) _ _ _ 0 [.int .i64 0] from rfl) (Reps.one (show Kd.M (Kd.int .i64) _ _ _ 1 [.int .i64 1] from rfl) (Reps.one (show Kd.M (Kd.int .i64) _ _ _ 10 [.int .i64 10] from rfl) (Reps.one (show Kd.M (Kd.int .i64) _ _ _ 10 [.int .i64 10] from rfl) (Reps.one (show Kd.M (Kd.int .i64) _ _ _ 50 [.int .i64 50] from rfl) (Reps.one (show Kd.M (Kd.int .i64) _ _ _ 500 [.int .i64 500] from rfl) (Reps.one (show Kd.M (Kd.int .i64) _ _ _ 99999 [.int .i64 99999] from rfl) (Reps.none _ _)))))))))
      intro v109 w12 ho13 hb hg_ hnew_
      have HS0_ := (hb.cell (World.block_lt_of_cell? _ _ (hHeld))).trans (hHeld)
      clear hg_ hnew_
      (first|rw [← Ny108.out] at ho13|(simp only [Int.reduceToNat] at ho13;rw [← Ny108.out] at ho13))
      replace HO_3 := Aside0.mk (Kd.S_elder' (ZKS HO_3) (Kd.R_base ho13) hb)
      replace HO_4 := ZBR HO_4 hb
      have HO110 := Aside0.mk (Kd.R_lower ho13 (keep_size (w := w) (g := g) (row := none) (ZW HK)))
      replace HK := Aside0.mk (KeepBut.trans (ZW HK) (KeepBut.of_below hb g none) (.inl rfl))
      replace HB := Aside0.mk (below_step (by repeat (first|(with_reducible first|exact HB.out|apply zbA|apply zbB|apply zbC|refine below_set ?_ (IsS49.ge HI0.out))|exact HB.out)) hb)
      replace HI0 := Aside0.mk (IsS49.below (ZS HI0) hb)
      clear hb ho13
      obtain ⟨Ao14,co14,eo14⟩ := Kd.R_slice HO110.out
      (first|subst eo14|(injection eo14 with f1_ f2_ f3_;have f4_ := f1_.symm;have f5_ := f3_.symm;clear f1_ f2_ f3_;subst f4_;subst f5_))
      refine hK.out _ _ (HS0_) (fun hHeld => ?_)
      clear hK K
      refine norm_ (a' := ?_) ?_ ?_
      rotate_left
      ·show Act.put _ (some 27) _ = _
       simp only [Act.put,zuA,zuB,zuC,i64_w,i32_w]
       rfl
      refine two_ (i := 6) (j := 8) (Ni := some 28) (Nj := some 7) #[Y,Y,Y,Y,Y,Y,Y,X,X,X] #[Y,Y,Y,Y,Y,Y,X,X,Y,X] rfl rfl rfl rfl (two_of HT_.out (by kernel_rfl)) (by decide) (by decide) (fun K hK => ?_) (fun K hK => ?_)
      ·skip
       refine goes_ Try.func22 (by kernel_rfl) rfl #[.pointer (some ⟨g,0,none⟩),.slice Ao14 y108.length co14] (by rfl) rfl rfl (by (try simp only [List.map_toArray,List.map_cons,List.map_nil]);first|done|rfl|(simp only [List.length_drop,List.length_take];rfl)) ?_
       with_reducible refine (spec_l1Cur_among.calls g s0_0 x1001_1 x1002_1 _ _ y108 t111 t112 t113 w0 _ ?side1 ?side2 ?side3 ?side4 ?side5 A10.out).mono ?_
       (case side1 => repeat (first|(with_reducible first|exact HI0.out|apply zsA|apply zsB|apply zsC|apply zsD|apply zsE)|exact HI0.out))
       (case side2 => repeat (first|(with_reducible first|exact HB.out|apply zbA|apply zbB|apply zbC|refine below_set ?_ (IsS49.ge HI0.out))|exact HB.out))
       (case side3 => exact ZR (Kd.R_reads' HO110.out).2.2)
       (case side4 => exact (Kd.R_reads' HO110.out).2.1)
       (case side5 => exact far_slice (IsS49.own_ne HI0.out HO110.out (by decide)))
       rintro e w15 ⟨rfl,hi,hb,hk⟩
       have HS0_ := keep_cell hk (hHeld) (by first|(rw [add_block];exact Kd.own_blk (IsS49.own_ne HI0.out HO_4.out (by decide)))|(show (Addr.add _ _).block ≠ _;rw [add_block];exact Kd.own_blk (IsS49.own_ne HI0.out HO_4.out (by decide)))|exact Kd.own_blk (IsS49.own_ne HI0.out HO_4.out (by decide)))
       refine ⟨_,rfl,?_⟩
       replace HO_3 := Aside0.mk (Kd.S_mono (Kd.S_keep (IsS49.apartS (show IsS49 w0 _ g s0_0 x1001_1 x1002_1 from ZS HI0) (ZKS HO_3) (by decide)) hk (fun _ h => h.2)) (fun _ h => h.1))
       replace HO_4 := Aside0.mk (Kd.R_mono (Kd.R_keep (IsS49.apart (show IsS49 w0 _ g s0_0 x1001_1 x1002_1 from ZS HI0) (ZK HO_4) (by decide)) hk (fun _ h => h.2)) (fun _ h => h.1))
       replace HO110 := Aside0.mk (Kd.R_mono (Kd.R_keep (IsS49.apart (show IsS49 w0 _ g s0_0 x1001_1 x1002_1 from ZS HI0) (ZK HO110) (by decide)) hk (fun _ h => h.2)) (fun _ h => h.1))
       replace HK := Aside0.mk (KeepBut.trans (ZW HK) hk (.inl rfl))
       replace HB := Aside0.mk (hb)
       replace HI0 := Aside0.mk (hi)
       refine hK.out _ _ (HS0_) (fun hHeld => ?_)
       clear hK K
       refine norm_ (a' := ?_) ?_ ?_
       rotate_left
       ·show Act.put _ (some 28) _ = _
        simp only [Act.put,zuA,zuB,zuC,i64_w,i32_w]
        rfl
       refine YP 7 29 #[Y,Y,Y,Y,Y,Y,Y,Y,X,X] rfl rfl HT_ ?_
       refine ZO 8 7 #[Y,Y,Y,Y,Y,Y,Y,Y,Y,X] rfl rfl HT_ fun K hK => ?_
       refine box_step ?hg (N := 7) ?hd (cs := #[.string (⟨#[]⟩ : ByteArray),.slice none 0 0,.int .i64 0]) (t := 43) ?hr ?_;(case hd => rfl);(case hg => rfl);(case hr => first|(go_simp;done)|(go_simp;rfl))
       intro gb114 hg w16 hbox hb
       have HS0_ := (hb.cell (World.block_lt_of_cell? _ _ (hHeld))).trans (hHeld)
       replace HO_3 := Aside0.mk (Kd.S_below (Kd.S_elderB (ZKS HO_3) gb114 (Nat.le_of_eq hg.symm)) hb)
       replace HO_4 := ZBR HO_4 hb
       replace HO110 := ZBR HO110 hb
       replace HB := Aside0.mk (below_step (by repeat (first|(with_reducible first|exact HB.out|apply zbA|apply zbB|apply zbC|refine below_set ?_ (IsS49.ge HI0.out))|exact HB.out)) hb)
       have BK114 := Aside0.mk (hbox)
       have GW114 := Aside0.mk ((by rw [hg];exact (keep_size (w := w) (g := g) (row := none) (ZW HK)) : w.heap.size ≤ gb114))
       have GE114 := Aside0.mk ((Nat.le_trans HW0.out (by rw [hg];exact (keep_size (w := w) (g := g) (row := none) (ZW HK)) : w.heap.size ≤ gb114) : w0.heap.size ≤ gb114))
       replace HK := Aside0.mk (KeepBut.trans (ZW HK) (KeepBut.of_below hb g none) (.inl rfl))
       have NB0_114 := Aside0.mk ((by rw [hg];exact Nat.ne_of_lt (IsS49.lt (show IsS49 w0 _ g s0_0 t112 t113 from ZS HI0)) : g ≠ gb114))
       have NB114_0 := Aside0.mk ((by rw [hg];exact Nat.ne_of_gt (IsS49.lt (show IsS49 w0 _ g s0_0 t112 t113 from ZS HI0)) : gb114 ≠ g))
       replace HI0 := Aside0.mk (IsS49.below (ZS HI0) hb)
       clear hb hbox hg
       refine hK.out _ _ (HS0_) (fun hHeld => ?_)
       clear hK K
       refine norm_ (a' := ?_) ?_ ?_
       rotate_left
       ·show Act.put _ (some 7) _ = _
        simp only [Act.put,zuA,zuB,zuC,i64_w,i32_w]
        rfl
       exact norm_ (by simp only [putAll,Act.put,zuA,zuB,zuC]) (hCont (.slice Ao14 y108.length co14,gb114) _ ⟨hHeld,(ZK HO110),(ZKS ⟨Kd.S_mono HO_3.out (fun _ hk => ⟨hk.1.2,hk.2⟩)⟩),(ZK HO_4),(ZH BK114),GW114.out,GE114.out,NB0_114.out,NB114_0.out,(ZS HI0),(ZW HK),(by repeat (first|(with_reducible first|exact HB.out|apply zbA|apply zbB|apply zbC|refine below_set ?_ (IsS49.ge HI0.out)|refine below_set ?_ GE114.out)|exact HB.out))⟩)
      skip
      refine box_step ?hg (N := 7) ?hd (cs := #[.string (⟨#[]⟩ : ByteArray),.slice none 0 0,.int .i64 0]) (t := 43) ?hr ?_;(case hd => rfl);(case hg => rfl);(case hr => first|(go_simp;done)|(go_simp;rfl))
      intro gb114 hg w14 hbox hb
      have HS0_ := (hb.cell (World.block_lt_of_cell? _ _ (hHeld))).trans (hHeld)
      replace HO_3 := Aside0.mk (Kd.S_below (Kd.S_elderB (ZKS HO_3) gb114 (Nat.le_of_eq hg.symm)) hb)
      replace HO_4 := ZBR HO_4 hb
      replace HO110 := ZBR HO110 hb
      replace HB := Aside0.mk (below_step (by repeat (first|(with_reducible first|exact HB.out|apply zbA|apply zbB|apply zbC|refine below_set ?_ (IsS49.ge HI0.out))|exact HB.out)) hb)
      have BK114 := Aside0.mk (hbox)
      have GW114 := Aside0.mk ((by rw [hg];exact (keep_size (w := w) (g := g) (row := none) (ZW HK)) : w.heap.size ≤ gb114))
      have GE114 := Aside0.mk ((Nat.le_trans HW0.out (by rw [hg];exact (keep_size (w := w) (g := g) (row := none) (ZW HK)) : w.heap.size ≤ gb114) : w0.heap.size ≤ gb114))
      replace HK := Aside0.mk (KeepBut.trans (ZW HK) (KeepBut.of_below hb g none) (.inl rfl))
      have NB0_114 := Aside0.mk ((by rw [hg];exact Nat.ne_of_lt (IsS49.lt (show IsS49 w0 _ g s0_0 x1001_1 x1002_1 from ZS HI0)) : g ≠ gb114))
      have NB114_0 := Aside0.mk ((by rw [hg];exact Nat.ne_of_gt (IsS49.lt (show IsS49 w0 _ g s0_0 x1001_1 x1002_1 from ZS HI0)) : gb114 ≠ g))
      replace HI0 := Aside0.mk (IsS49.below (ZS HI0) hb)
      clear hb hbox hg
      obtain ⟨Ao15,co15,eo15⟩ := Kd.R_slice HO110.out
      (first|subst eo15|(injection eo15 with f1_ f2_ f3_;have f4_ := f1_.symm;have f5_ := f3_.symm;clear f1_ f2_ f3_;subst f4_;subst f5_))
      refine hK.out _ _ (HS0_) (fun hHeld => ?_)
      clear hK K
      refine norm_ (a' := ?_) ?_ ?_
      rotate_left
      ·show Act.put _ (some 7) _ = _
       simp only [Act.put,zuA,zuB,zuC,i64_w,i32_w]
       rfl
      refine ZO 6 28 #[Y,Y,Y,Y,Y,Y,Y,X,Y,X] rfl rfl HT_ fun K hK => ?_
      refine goes_ Try.func22 (by kernel_rfl) rfl #[.pointer (some ⟨g,0,none⟩),.slice Ao15 y108.length co15] (by rfl) rfl rfl (by (try simp only [List.map_toArray,List.map_cons,List.map_nil]);first|done|rfl|(simp only [List.length_drop,List.length_take];rfl)) ?_
      with_reducible refine (spec_l1Cur_among.calls g s0_0 x1001_1 x1002_1 _ _ y108 t111 t112 t113 w0 _ ?side1 ?side2 ?side3 ?side4 ?side5 A10.out).mono ?_
      (case side1 => repeat (first|(with_reducible first|exact HI0.out|apply zsA|apply zsB|apply zsC|apply zsD|apply zsE|apply zsF NB0_114.out)|exact HI0.out))
      (case side2 => repeat (first|(with_reducible first|exact HB.out|apply zbA|apply zbB|apply zbC|refine below_set ?_ (IsS49.ge HI0.out)|refine below_set ?_ GE114.out)|exact HB.out))
      (case side3 => exact ZR (Kd.R_reads' HO110.out).2.2)
      (case side4 => exact (Kd.R_reads' HO110.out).2.1)
      (case side5 => exact far_slice (IsS49.own_ne HI0.out HO110.out (by decide)))
      rintro e w16 ⟨rfl,hi,hb,hk⟩
      have HS0_ := keep_cell hk (hHeld) (by first|(rw [add_block];exact Kd.own_blk (IsS49.own_ne HI0.out HO_4.out (by decide)))|(show (Addr.add _ _).block ≠ _;rw [add_block];exact Kd.own_blk (IsS49.own_ne HI0.out HO_4.out (by decide)))|exact Kd.own_blk (IsS49.own_ne HI0.out HO_4.out (by decide)))
      refine ⟨_,rfl,?_⟩
      replace HO_3 := Aside0.mk (Kd.S_mono (Kd.S_keep (IsS49.apartS (show IsS49 w0 _ g s0_0 x1001_1 x1002_1 from ZS HI0) (ZKS HO_3) (by decide)) hk (fun _ h => h.2)) (fun _ h => h.1))
      replace HO_4 := Aside0.mk (Kd.R_mono (Kd.R_keep (IsS49.apart (show IsS49 w0 _ g s0_0 x1001_1 x1002_1 from ZS HI0) (ZK HO_4) (by decide)) hk (fun _ h => h.2)) (fun _ h => h.1))
      replace HO110 := Aside0.mk (Kd.R_mono (Kd.R_keep (IsS49.apart (show IsS49 w0 _ g s0_0 x1001_1 x1002_1 from ZS HI0) (ZK HO110) (by decide)) hk (fun _ h => h.2)) (fun _ h => h.1))
      replace BK114 := Aside0.mk (KeepBut.blk hk (g' := gb114) (o := .cells #[.string (⟨#[]⟩ : ByteArray),.slice none 0 0,.int .i64 0] 43 (0,0)) (ZH BK114) NB114_0.out (by simp))
      replace HK := Aside0.mk (KeepBut.trans (ZW HK) hk (.inl rfl))
      replace HB := Aside0.mk (hb)
      replace HI0 := Aside0.mk (hi)
      refine hK.out _ _ (HS0_) (fun hHeld => ?_)
      clear hK K
      refine norm_ (a' := ?_) ?_ ?_
      rotate_left
      ·show Act.put _ (some 28) _ = _
       simp only [Act.put,zuA,zuB,zuC,i64_w,i32_w]
       rfl
      refine YP 7 29 #[Y,Y,Y,Y,Y,Y,Y,Y,Y,X] rfl rfl HT_ ?_
      exact norm_ (by simp only [putAll,Act.put,zuA,zuB,zuC]) (hCont (.slice Ao15 y108.length co15,gb114) _ ⟨hHeld,(ZK HO110),(ZKS ⟨Kd.S_mono HO_3.out (fun _ hk => ⟨hk.1.2,hk.2⟩)⟩),(ZK HO_4),(ZH BK114),GW114.out,GE114.out,NB0_114.out,NB114_0.out,(ZS HI0),(ZW HK),(by repeat (first|(with_reducible first|exact HB.out|apply zbA|apply zbB|apply zbC|refine below_set ?_ (IsS49.ge HI0.out)|refine below_set ?_ GE114.out)|exact HB.out))⟩)
     skip
     refine box_step ?hg (N := 7) ?hd (cs := #[.string (⟨#[]⟩ : ByteArray),.slice none 0 0,.int .i64 0]) (t := 43) ?hr ?_;(case hd => rfl);(case hg => rfl);(case hr => first|(go_simp;done)|(go_simp;rfl))
     intro gb114 hg w12 hbox hb
     have HS0_ := (hb.cell (World.block_lt_of_cell? _ _ (hHeld))).trans (hHeld)
     replace HO_3 := Aside0.mk (Kd.S_below (Kd.S_elderB (ZKS HO_3) gb114 (Nat.le_of_eq hg.symm)) hb)
     replace HO_4 := ZBR HO_4 hb
     replace HB := Aside0.mk (below_step (by repeat (first|(with_reducible first|exact HB.out|apply zbA|apply zbB|apply zbC|refine below_set ?_ (IsS49.ge HI0.out))|exact HB.out)) hb)
     have BK114 := Aside0.mk (hbox)
     have GW114 := Aside0.mk ((by rw [hg];exact (keep_size (w := w) (g := g) (row := none) (ZW HK)) : w.heap.size ≤ gb114))
     have GE114 := Aside0.mk ((Nat.le_trans HW0.out (by rw [hg];exact (keep_size (w := w) (g := g) (row := none) (ZW HK)) : w.heap.size ≤ gb114) : w0.heap.size ≤ gb114))
     replace HK := Aside0.mk (KeepBut.trans (ZW HK) (KeepBut.of_below hb g none) (.inl rfl))
     have NB0_114 := Aside0.mk ((by rw [hg];exact Nat.ne_of_lt (IsS49.lt (show IsS49 w0 _ g s0_0 x1001_1 x1002_1 from ZS HI0)) : g ≠ gb114))
     have NB114_0 := Aside0.mk ((by rw [hg];exact Nat.ne_of_gt (IsS49.lt (show IsS49 w0 _ g s0_0 x1001_1 x1002_1 from ZS HI0)) : gb114 ≠ g))
     replace HI0 := Aside0.mk (IsS49.below (ZS HI0) hb)
     clear hb hbox hg
     refine hK.out _ _ (HS0_) (fun hHeld => ?_)
     clear hK K
     refine norm_ (a' := ?_) ?_ ?_
     rotate_left
     ·show Act.put _ (some 7) _ = _
      simp only [Act.put,zuA,zuB,zuC,i64_w,i32_w]
      rfl
     refine ZO 5 27 #[Y,Y,Y,Y,Y,Y,X,X,Y,X] rfl rfl HT_ fun K hK => ?_
     refine Kd.R_lit_step (Kd.int .i64) _ 3 ?hg (N := 27) ?hd (xs := ([0,1,10,10,50,500,99999] : List Int)) (inner := [.int .i64 0,.int .i64 1,.int .i64 10,.int .i64 10,.int .i64 50,.int .i64 500,.int .i64 99999]) (ok := fun _ => True) (okp := fun _ => True) ?hr ?hp (fun _ hk => hk) trivial (Below.refl _ _) (Nat.le_refl _) (by simp) ?_;(case hd => rfl);(case hg => rfl);(case hr => first|(go_simp;done)|(go_simp;rfl));(case hp => exact (Reps.one (show Kd.M (Kd.int .i64) _ _ _ 0 [.int .i64 0] from rfl) (Reps.one (show Kd.M (Kd.int .i64) _ _ _ 1 [.int .i64 1] from rfl) (Reps.one (show Kd.M (Kd.int .i64) _ _ _ 10 [.int .i64 10] from rfl) (Reps.one (show Kd.M (Kd.int .i64) _ _ _ 10 [.int .i64 10] from rfl) (Reps.one (show Kd.M (Kd.int .i64) _ _ _ 50 [.int .i64 50] from rfl) (Reps.one (show Kd.M (Kd.int .i64) _ _ _ 500 [.int .i64 500] from rfl) (Reps.one (show Kd.M (Kd.int .i64) _ _ _ 99999 [.int .i64 99999] from rfl) (Reps.none _ _)))))))))
     intro v109 w13 ho14 hb hg_ hnew_
     have HS0_ := (hb.cell (World.block_lt_of_cell? _ _ (hHeld))).trans (hHeld)
     clear hg_ hnew_
     (first|rw [← Ny108.out] at ho14|(simp only [Int.reduceToNat] at ho14;rw [← Ny108.out] at ho14))
     replace HO_3 := Aside0.mk (Kd.S_elder' (ZKS HO_3) (Kd.R_base ho14) hb)
     replace HO_4 := ZBR HO_4 hb
     have HO110 := Aside0.mk (Kd.R_lower ho14 (keep_size (w := w) (g := g) (row := none) (ZW HK)))
     replace BK114 := Aside0.mk (blk_below (ZH BK114) hb)
     replace HK := Aside0.mk (KeepBut.trans (ZW HK) (KeepBut.of_below hb g none) (.inl rfl))
     replace HB := Aside0.mk (below_step (by repeat (first|(with_reducible first|exact HB.out|apply zbA|apply zbB|apply zbC|refine below_set ?_ (IsS49.ge HI0.out)|refine below_set ?_ GE114.out)|exact HB.out)) hb)
     replace HI0 := Aside0.mk (IsS49.below (ZS HI0) hb)
     clear hb ho14
     obtain ⟨Ao15,co15,eo15⟩ := Kd.R_slice HO110.out
     (first|subst eo15|(injection eo15 with f1_ f2_ f3_;have f4_ := f1_.symm;have f5_ := f3_.symm;clear f1_ f2_ f3_;subst f4_;subst f5_))
     refine hK.out _ _ (HS0_) (fun hHeld => ?_)
     clear hK K
     refine norm_ (a' := ?_) ?_ ?_
     rotate_left
     ·show Act.put _ (some 27) _ = _
      simp only [Act.put,zuA,zuB,zuC,i64_w,i32_w]
      rfl
     refine ZO 6 28 #[Y,Y,Y,Y,Y,Y,Y,X,Y,X] rfl rfl HT_ fun K hK => ?_
     refine goes_ Try.func22 (by kernel_rfl) rfl #[.pointer (some ⟨g,0,none⟩),.slice Ao15 y108.length co15] (by rfl) rfl rfl (by (try simp only [List.map_toArray,List.map_cons,List.map_nil]);first|done|rfl|(simp only [List.length_drop,List.length_take];rfl)) ?_
     with_reducible refine (spec_l1Cur_among.calls g s0_0 x1001_1 x1002_1 _ _ y108 t111 t112 t113 w0 _ ?side1 ?side2 ?side3 ?side4 ?side5 A10.out).mono ?_
     (case side1 => repeat (first|(with_reducible first|exact HI0.out|apply zsA|apply zsB|apply zsC|apply zsD|apply zsE|apply zsF NB0_114.out)|exact HI0.out))
     (case side2 => repeat (first|(with_reducible first|exact HB.out|apply zbA|apply zbB|apply zbC|refine below_set ?_ (IsS49.ge HI0.out)|refine below_set ?_ GE114.out)|exact HB.out))
     (case side3 => exact ZR (Kd.R_reads' HO110.out).2.2)
     (case side4 => exact (Kd.R_reads' HO110.out).2.1)
     (case side5 => exact far_slice (IsS49.own_ne HI0.out HO110.out (by decide)))
     rintro e w16 ⟨rfl,hi,hb,hk⟩
     have HS0_ := keep_cell hk (hHeld) (by first|(rw [add_block];exact Kd.own_blk (IsS49.own_ne HI0.out HO_4.out (by decide)))|(show (Addr.add _ _).block ≠ _;rw [add_block];exact Kd.own_blk (IsS49.own_ne HI0.out HO_4.out (by decide)))|exact Kd.own_blk (IsS49.own_ne HI0.out HO_4.out (by decide)))
     refine ⟨_,rfl,?_⟩
     replace HO_3 := Aside0.mk (Kd.S_mono (Kd.S_keep (IsS49.apartS (show IsS49 w0 _ g s0_0 x1001_1 x1002_1 from ZS HI0) (ZKS HO_3) (by decide)) hk (fun _ h => h.2)) (fun _ h => h.1))
     replace HO_4 := Aside0.mk (Kd.R_mono (Kd.R_keep (IsS49.apart (show IsS49 w0 _ g s0_0 x1001_1 x1002_1 from ZS HI0) (ZK HO_4) (by decide)) hk (fun _ h => h.2)) (fun _ h => h.1))
     replace BK114 := Aside0.mk (KeepBut.blk hk (g' := gb114) (o := .cells #[.string (⟨#[]⟩ : ByteArray),.slice none 0 0,.int .i64 0] 43 (0,0)) (ZH BK114) NB114_0.out (by simp))
     replace HO110 := Aside0.mk (Kd.R_mono (Kd.R_keep (IsS49.apart (show IsS49 w0 _ g s0_0 x1001_1 x1002_1 from ZS HI0) (ZK HO110) (by decide)) hk (fun _ h => h.2)) (fun _ h => h.1))
     replace HK := Aside0.mk (KeepBut.trans (ZW HK) hk (.inl rfl))
     replace HB := Aside0.mk (hb)
     replace HI0 := Aside0.mk (hi)
     refine hK.out _ _ (HS0_) (fun hHeld => ?_)
     clear hK K
     refine norm_ (a' := ?_) ?_ ?_
     rotate_left
     ·show Act.put _ (some 28) _ = _
      simp only [Act.put,zuA,zuB,zuC,i64_w,i32_w]
      rfl
     refine YP 7 29 #[Y,Y,Y,Y,Y,Y,Y,Y,Y,X] rfl rfl HT_ ?_
     exact norm_ (by simp only [putAll,Act.put,zuA,zuB,zuC]) (hCont (.slice Ao15 y108.length co15,gb114) _ ⟨hHeld,(ZK HO110),(ZKS ⟨Kd.S_mono HO_3.out (fun _ hk => ⟨hk.2,hk.1.2⟩)⟩),(ZK HO_4),(ZH BK114),GW114.out,GE114.out,NB0_114.out,NB114_0.out,(ZS HI0),(ZW HK),(by repeat (first|(with_reducible first|exact HB.out|apply zbA|apply zbB|apply zbC|refine below_set ?_ (IsS49.ge HI0.out)|refine below_set ?_ GE114.out)|exact HB.out))⟩)
    rintro ⟨v109,gb114⟩ w17 ⟨hS_,h0_,h1_,h2_,h3_,h4_,h5_,h6_,h7_,h8_,h9_,h10_⟩
    have HO110 := Aside0.mk h0_
    replace HO_3 := Aside0.mk h1_
    replace HO_4 := Aside0.mk h2_
    have BK114 := Aside0.mk h3_
    have GW114 := Aside0.mk h4_
    have GE114 := Aside0.mk h5_
    have NB0_114 := Aside0.mk h6_
    have NB114_0 := Aside0.mk h7_
    replace HI0 := Aside0.mk h8_
    replace HK := Aside0.mk h9_
    replace HB := Aside0.mk h10_
    clear h0_ h1_ h2_ h3_ h4_ h5_ h6_ h7_ h8_ h9_ h10_
    have hHeld : w17.cell? (ad107.add (x6_1).toNat) = some (.string (rdOf ByteArray.empty y101 x6_1)) := hS_
    refine norm_ (a' := ?_) ?_ ?_
    rotate_left
    ·simp only [putAll,Act.put,zuA,zuB,zuC]
     rfl
    refine one_ (i := 9) (N := none) #[Y,Y,Y,Y,Y,Y,Y,Y,Y,Y] rfl rfl (one_of HT_.out (by kernel_rfl)) (by decide) (fun K hK => ?_)
    have hs18 : w17.cell? ⟨gb114,0,none⟩ = some (.string (⟨#[]⟩ : ByteArray)) := ZC BK114 0 rfl
    have hfs18 := blk_frozen BK114.out 0
    have hs19 : w17.cell? ⟨gb114,1,none⟩ = some (.slice none 0 0) := ZC BK114 1 rfl
    have hfs19 := blk_frozen BK114.out 1
    have hs20 : w17.cell? ⟨gb114,2,none⟩ = some (.int .i64 0) := ZC BK114 2 rfl
    have hfs20 := blk_frozen BK114.out 2
    refine skip_ (w1 := ?_) (by rfl) rfl ?_ ?_
    rotate_left
    ·go_simp
     rfl
    refine hK.out _ _ ((by (repeat refine ZF (g := gb114) (by first|exact Kd.own_blk (Kd.R_ne HO_4.out BK114.out (by decide))|(rw [add_block];exact Kd.own_blk (Kd.R_ne HO_4.out BK114.out (by decide)))|(show (Addr.add _ _).block ≠ _;rw [add_block];exact Kd.own_blk (Kd.R_ne HO_4.out BK114.out (by decide)))|(dsimp only;exact Kd.own_blk (Kd.R_ne HO_4.out BK114.out (by decide)))) ?_);exact hHeld)) (fun hHeld => ?_)
    clear hK K
    refine done_ (done_of HT_.out (by kernel_rfl)) ?_
    try go_wp2
    go_loopg [8] k1 (fun kq v8 w' => ∃ (x8_2 : Int) (x1001_2 : Int) (x1002_2 : Int) (x115001_2 : List Int) (u115001 : Value),v8 = .int .i64 x8_2 ∧ Aside0 (spec_l1Cur_words.l1 kq x3_1 y101 t104 x6_1 x8_2 s0_0 x1001_2 x1002_2 (rdOf ByteArray.empty y101 x6_1) x115001_2 t111 = some (r1,r2,r3)) ∧ Aside0 (kq ≤ k1) ∧ Aside0 (Kd.S k43 43 w' w.heap.size (fun k_ => some k_ ≠ (u115001 : Value).ownBlock ∧ k_ ≠ gb114) u3 x3_1) ∧ Aside0 (Kd.R Kd.string 9 w' w.heap.size (fun _ => True) (.slice (some ad107) y101.length co5) y101) ∧ Aside0 (Kd.R (Kd.int .i64) 3 w' w.heap.size (fun _ => True) u115001 x115001_2) ∧ Aside0 (w'.heap[gb114]? = some (.cells #[.string (rdOf ByteArray.empty y101 x6_1),u115001,.int .i64 t111] 43 (0,0))) ∧ Aside0 (IsS49 w0 w' g s0_0 x1001_2 x1002_2) ∧ Aside0 (KeepBut w w' g none) ∧ Aside0 (Below w0.heap.size w0 w'))
    case atStart => exact ⟨(0),(t112),(t113),(([] : List Int)),(.slice none 0 0),(by first|rfl|(simp;done)|(simp [*];done)),H',⟨Nat.le_refl _⟩,⟨ZKS ⟨Kd.S_mono (Kd.S_far (p := ⟨gb114,2,none⟩) (Kd.S_far (p := ⟨gb114,1,none⟩) (Kd.S_far (p := ⟨gb114,0,none⟩) (Kd.S_mono HO_3.out (fun k_ hk => (⟨hk,hk.2⟩ : _ ∧ k_ ≠ gb114))) (fun _ hk => hk.2) (.string (rdOf ByteArray.empty y101 x6_1))) (fun _ hk => hk.2) (.slice none 0 0)) (fun _ hk => hk.2) (.int .i64 t111)) (fun _ hk => ⟨(by simp [Value.ownBlock]),hk.1.2⟩)⟩⟩,⟨ZK ⟨Kd.R_mono (Kd.R_far (p := ⟨gb114,2,none⟩) (Kd.R_far (p := ⟨gb114,1,none⟩) (Kd.R_far (p := ⟨gb114,0,none⟩) (Kd.R_types HO_4.out BK114.out (by decide)) (fun _ hk => hk.2) (.string (rdOf ByteArray.empty y101 x6_1))) (fun _ hk => hk.2) (.slice none 0 0)) (fun _ hk => hk.2) (.int .i64 t111)) (fun _ hk => trivial)⟩⟩,⟨by first|exact Kd.R_nil _ _ _ _ _|exact Kd.N_nil _ _ _ _ _|exact Kd.V_nil _ _ _ _ _|exact Kd.Q_nil _ _ _ _ _|exact Kd.S_nil _ _ _ _ _⟩,⟨by (with_reducible repeat (first|apply zhA|apply zhB|apply zhC));refine blk_put (cs := #[.string (rdOf ByteArray.empty y101 x6_1),.slice none 0 0,.int .i64 0]) ?_ 2 _ rfl;(with_reducible repeat (first|apply zhA|apply zhB|apply zhC));refine blk_put (cs := #[.string (rdOf ByteArray.empty y101 x6_1),.slice none 0 0,.int .i64 0]) ?_ 1 _ rfl;(with_reducible repeat (first|apply zhA|apply zhB|apply zhC));refine blk_put (cs := #[.string (⟨#[]⟩ : ByteArray),.slice none 0 0,.int .i64 0]) ?_ 0 _ rfl;(with_reducible repeat (first|apply zhA|apply zhB|apply zhC));exact BK114.out⟩,⟨ZS HI0⟩,⟨ZW HK⟩,⟨by repeat (first|(with_reducible first|exact HB.out|apply zbA|apply zbB|apply zbC|refine below_set ?_ (IsS49.ge HI0.out)|refine below_set ?_ GE114.out)|exact HB.out)⟩⟩
    case round =>
     clear H'
     obtain ⟨x8_2,x1001_2,x1002_2,x115001_2,u115001,rfl,HA,HK2,HO_3,HO_4,HO_115001,BK114,HI0,HK,HB⟩ := hrel
     cases gk with
     | zero => exact absurd HA.out (by simp [spec_l1Cur_words.l1])
     | succ k2 =>
      have H := HA.out
      clear HA
      simp only [spec_l1Cur_words.l1] at H
      by_cases c21 : x8_2 < x6_1;rotate_left
      ·rw [if_neg c21] at H
       have c21b0 : decide (x8_2 < x6_1) = false := decide_eq_false c21
       clear c21
       by_cases c32 : x3_1.length < 2932031007402;rotate_left
       ·rw [if_neg c32] at H
        exact absurd H (by simp)
       rw [if_pos c32] at H
       have LMc32 := Aside0.mk c32
       clear c32
       obtain ⟨y121,hy121⟩ : ∃ y_ : List (S43),y_ = (x3_1 ++ [(⟨(rdOf ByteArray.empty y101 x6_1),x115001_2,t111⟩ : S43)]) := ⟨_,rfl⟩
       replace H : (spec_l1Cur_words.l0 k2 y121 y101 t104 (wrap64 (x6_1 + 1)) s0_0 x1001_2 x1002_2) = some (r1,r2,r3) := by first|(rw [hy121];with_reducible exact H)|(have H2_ := (Option.bind_some _ _).symm.trans H;rw [hy121];with_reducible exact H2_)|(have H2_ := (Option.bind_some _ _).symm.trans H;with_reducible exact H2_)|with_reducible exact H|(rw [hy121];exact H)|exact H
       have Ny121 := Aside0.mk hy121
       clear hy121
       have H' := Aside0.mk H
       clear H
       have hnb33 := NB114_0.out
       have hnc33 := NB0_114.out
       have hcz34_0 : wr.cell? ⟨gb114,0,none⟩ = some (.string (rdOf ByteArray.empty y101 x6_1)) := ZC BK114 0 rfl
       have hcz34_1 : wr.cell? ⟨gb114,1,none⟩ = some (u115001) := ZC BK114 1 rfl
       have hcz34_2 : wr.cell? ⟨gb114,2,none⟩ = some (.int .i64 t111) := ZC BK114 2 rfl
       have hfz34_0 := blk_frozen BK114.out 0
       have hfz34_1 := blk_frozen BK114.out 1
       have hfz34_2 := blk_frozen BK114.out 2
       obtain ⟨Ao36,co36,eo36⟩ := Kd.R_slice HO_115001.out
       subst eo36
       go_wp2_with (first|((with_reducible refine gate_builtin (b := .append) (xs := #[.tmp 43,.tmp 45]) rfl ?_);at_builtin;refine Kd.S_append k43 w.heap.size rfl (.tmp 43) (.tmp 45) 24 43 (.agg #[(.string ⟨#[]⟩),(.slice none 0 0),(.int .i64 0)]) 48 rfl Try.underlying24 info43 rfl (by decide) (by omega) u3 x3_1 (⟨(rdOf ByteArray.empty y101 x6_1),x115001_2,t111⟩ : S43) [.string (rdOf ByteArray.empty y101 x6_1),.slice Ao36 x115001_2.length co36,.int .i64 t111] (fun k_ => k_ ≠ gb114) (fun k_ => some k_ = (.slice Ao36 x115001_2.length co36 : Value).ownBlock) rfl rfl ?aP (fun k_ hk_ => ((Kd.R_mono (ok' := fun k_ => ((fun k_ => k_ ≠ gb114)) k_ ∧ some k_ ≠ (u3 : Value).ownBlock) (Kd.R_types (Kd.R_apart' (HO_115001.out) (Kd.S_typed HO_3.out) (by decide)) BK114.out (by decide)) (fun k_ hk => ⟨hk.2,hk.1.2⟩))).1 k_ hk_.symm) ?aF ?aO (Below.refl _ _) ?aS ?aL ?_;(case aP => exact k43_mkM _ _ _ (⟨(rdOf ByteArray.empty y101 x6_1),x115001_2,t111⟩ : S43) (Kd.R_mono (Kd.R_tight rfl (Kd.R_mono (ok' := fun k_ => ((fun k_ => k_ ≠ gb114)) k_ ∧ some k_ ≠ (u3 : Value).ownBlock) (Kd.R_types (Kd.R_apart' (HO_115001.out) (Kd.S_typed HO_3.out) (by decide)) BK114.out (by decide)) (fun k_ hk => ⟨hk.2,hk.1.2⟩))) (fun _ h_ => h_)));(case aF => exact (fun k_ hk => Kd.freshB (ZH BK114) k_ hk));(case aO => exact (ZKS ⟨Kd.S_mono HO_3.out (fun k_ hk => ⟨hk.2,fun e_ => hk.1 e_⟩)⟩));(case aS => exact (keep_size (w := w) (g := g) (row := none) (ZW HK)));(case aL => have := LMc32.out;omega);intro v122 w35 ho hb hg hat;rw [← Ny121.out] at ho;replace HO_4 := Aside0.mk (Kd.R_over' (ZK HO_4) (Kd.S_typed (ZKS HO_3)) (by decide) hg);replace BK114 := Aside0.mk (blk_grown (g := gb114) (o := .cells #[.string (rdOf ByteArray.empty y101 x6_1),.slice Ao36 x115001_2.length co36,.int .i64 t111] 43 (0,0)) (ZH BK114) hg (Kd.S_away HO_3.out (fun _ hk => hk.2)));replace HB := Aside0.mk (below_weaken (by repeat (first|(with_reducible first|exact HB.out|apply zbA|apply zbB|apply zbC|refine below_set ?_ (IsS49.ge HI0.out)|refine below_set ?_ GE114.out)|exact HB.out)) HL.out hb);replace HI0 := Aside0.mk (IsS49.grown (ZS HI0) hg (IsS49.own_neS HI0.out HO_3.out (by decide)));replace HK := Aside0.mk (KeepBut.trans (ZW HK) (KeepBut.of_grown hg g) (Kd.S_base2 HO_3.out));have HO123 := Aside0.mk (ho);clear HO_3 HO_115001;clear ho hb hg hat))
       go_roundg k2
       case measure => have := HK1.out;have := HK2.out;omega
       case rel => exact ⟨(y121),(wrap64 (x6_1 + 1)),(x1001_2),(x1002_2),(by first|rfl|(simp;done)|(simp [*];done)),H',⟨by have := HK1.out;have := HK2.out;omega⟩,⟨ZKS ⟨Kd.S_mono HO123.out (fun _ hk => trivial)⟩⟩,⟨ZK HO_4⟩,⟨ZS HI0⟩,⟨ZW HK⟩,⟨by repeat (first|(with_reducible first|exact HB.out|apply zbA|apply zbB|apply zbC|refine below_set ?_ (IsS49.ge HI0.out)|refine below_set ?_ GE114.out)|exact HB.out)⟩⟩
      rw [if_pos c21] at H
      have c21b0 : decide (x8_2 < x6_1) = true := decide_eq_true c21
      clear c21
      replace H := Option.bind_eq_some_iff.mp H
      obtain ⟨⟨t115,t116,t117⟩,A220,H⟩ := H
      try dsimp only at H
      have A22 := Aside0.mk A220
      clear A220
      by_cases c23 : t115 = true;rotate_left
      ·replace c23 := Bool.eq_false_iff.mpr c23
       subst c23
       rw [if_neg (show ¬ (false = true) by decide)] at H
       have H' := Aside0.mk H
       clear H
       go_wp2_with (first|((with_reducible refine gate_callee (f := 46) rfl ?_);refine goesM_ (some 36) Try.func46 #[.pointer (some ⟨g,0,none⟩),.int .i64 3] ?_;(with_reducible refine (spec_l1Cur_one.calls g s0_0 x1001_2 x1002_2 3 false t116 t117 w0 _ ?side1 ?side2 A22.out).mono ?_);(case side1 => repeat (first|(with_reducible first|exact HI0.out|apply zsA|apply zsB|apply zsC|apply zsD|apply zsE|apply zsF NB0_114.out)|exact HI0.out));(case side2 => repeat (first|(with_reducible first|exact HB.out|apply zbA|apply zbB|apply zbC|refine below_set ?_ (IsS49.ge HI0.out)|refine below_set ?_ GE114.out)|exact HB.out));rintro e w31 ⟨rfl,hi,hb,hk⟩;refine ⟨_,rfl,?_⟩;replace HO_3 := Aside0.mk (Kd.S_mono (Kd.S_keep (IsS49.apartS (show IsS49 w0 _ g s0_0 x1001_2 x1002_2 from ZS HI0) (ZKS HO_3) (by decide)) hk (fun _ h => h.2)) (fun _ h => h.1));replace HO_4 := Aside0.mk (Kd.R_mono (Kd.R_keep (IsS49.apart (show IsS49 w0 _ g s0_0 x1001_2 x1002_2 from ZS HI0) (ZK HO_4) (by decide)) hk (fun _ h => h.2)) (fun _ h => h.1));replace HO_115001 := Aside0.mk (Kd.R_mono (Kd.R_keep (IsS49.apart (show IsS49 w0 _ g s0_0 x1001_2 x1002_2 from ZS HI0) (ZK HO_115001) (by decide)) hk (fun _ h => h.2)) (fun _ h => h.1));replace BK114 := Aside0.mk (KeepBut.blk hk (g' := gb114) (o := .cells #[.string (rdOf ByteArray.empty y101 x6_1),u115001,.int .i64 t111] 43 (0,0)) (ZH BK114) NB114_0.out (by simp));replace HK := Aside0.mk (KeepBut.trans (ZW HK) hk (.inl rfl));replace HB := Aside0.mk (hb);replace HI0 := Aside0.mk (hi);(try clear hb)))
       go_roundg k2
       case measure => have := HK1.out;have := HK2.out;omega
       case rel => exact ⟨(wrap64 (x8_2 + 1)),(t116),(t117),(x115001_2),(u115001),(by first|rfl|(simp;done)|(simp [*];done)),H',⟨by have := HK1.out;have := HK2.out;omega⟩,⟨ZKS HO_3⟩,⟨ZK HO_4⟩,⟨ZK HO_115001⟩,⟨ZH BK114⟩,⟨ZS HI0⟩,⟨ZW HK⟩,⟨by repeat (first|(with_reducible first|exact HB.out|apply zbA|apply zbB|apply zbC|refine below_set ?_ (IsS49.ge HI0.out)|refine below_set ?_ GE114.out)|exact HB.out)⟩⟩
      subst c23
      rw [if_pos rfl] at H
      by_cases c24 : x115001_2.length < 17592186044416;rotate_left
      ·rw [if_neg c24] at H
       exact absurd H (by simp)
      rw [if_pos c24] at H
      have LMc24 := Aside0.mk c24
      clear c24
      obtain ⟨y118,hy118⟩ : ∃ y_ : List Int,y_ = (x115001_2 ++ [x8_2]) := ⟨_,rfl⟩
      replace H : (spec_l1Cur_words.l1 k2 x3_1 y101 t104 x6_1 (wrap64 (x8_2 + 1)) s0_0 t116 t117 (rdOf ByteArray.empty y101 x6_1) y118 t111) = some (r1,r2,r3) := by first|(rw [hy118];with_reducible exact H)|(have H2_ := (Option.bind_some _ _).symm.trans H;rw [hy118];with_reducible exact H2_)|(have H2_ := (Option.bind_some _ _).symm.trans H;with_reducible exact H2_)|with_reducible exact H|(rw [hy118];exact H)|exact H
      have Ny118 := Aside0.mk hy118
      clear hy118
      have H' := Aside0.mk H
      clear H
      go_wp2_with (first|((with_reducible refine gate_callee (f := 46) rfl ?_);refine goesM_ (some 36) Try.func46 #[.pointer (some ⟨g,0,none⟩),.int .i64 3] ?_;(with_reducible refine (spec_l1Cur_one.calls g s0_0 x1001_2 x1002_2 3 true t116 t117 w0 _ ?side1 ?side2 A22.out).mono ?_);(case side1 => repeat (first|(with_reducible first|exact HI0.out|apply zsA|apply zsB|apply zsC|apply zsD|apply zsE|apply zsF NB0_114.out)|exact HI0.out));(case side2 => repeat (first|(with_reducible first|exact HB.out|apply zbA|apply zbB|apply zbC|refine below_set ?_ (IsS49.ge HI0.out)|refine below_set ?_ GE114.out)|exact HB.out));rintro e w25 ⟨rfl,hi,hb,hk⟩;refine ⟨_,rfl,?_⟩;replace HO_3 := Aside0.mk (Kd.S_mono (Kd.S_keep (IsS49.apartS (show IsS49 w0 _ g s0_0 x1001_2 x1002_2 from ZS HI0) (ZKS HO_3) (by decide)) hk (fun _ h => h.2)) (fun _ h => h.1));replace HO_4 := Aside0.mk (Kd.R_mono (Kd.R_keep (IsS49.apart (show IsS49 w0 _ g s0_0 x1001_2 x1002_2 from ZS HI0) (ZK HO_4) (by decide)) hk (fun _ h => h.2)) (fun _ h => h.1));replace HO_115001 := Aside0.mk (Kd.R_mono (Kd.R_keep (IsS49.apart (show IsS49 w0 _ g s0_0 x1001_2 x1002_2 from ZS HI0) (ZK HO_115001) (by decide)) hk (fun _ h => h.2)) (fun _ h => h.1));replace BK114 := Aside0.mk (KeepBut.blk hk (g' := gb114) (o := .cells #[.string (rdOf ByteArray.empty y101 x6_1),u115001,.int .i64 t111] 43 (0,0)) (ZH BK114) NB114_0.out (by simp));replace HK := Aside0.mk (KeepBut.trans (ZW HK) hk (.inl rfl));replace HB := Aside0.mk (hb);replace HI0 := Aside0.mk (hi);(try clear hb);have hnb26 := NB114_0.out;have hnc26 := NB0_114.out;have hcz27_0 : w25.cell? ⟨gb114,0,none⟩ = some (.string (rdOf ByteArray.empty y101 x6_1)) := ZC BK114 0 rfl;have hcz27_1 : w25.cell? ⟨gb114,1,none⟩ = some (u115001) := ZC BK114 1 rfl;have hcz27_2 : w25.cell? ⟨gb114,2,none⟩ = some (.int .i64 t111) := ZC BK114 2 rfl;have hfz27_0 := blk_frozen BK114.out 0;have hfz27_1 := blk_frozen BK114.out 1;have hfz27_2 := blk_frozen BK114.out 2)|((with_reducible refine gate_builtin (b := .append) (xs := #[.tmp 38,.tmp 40]) rfl ?_);at_builtin;refine Kd.R_append (Kd.int .i64) w.heap.size rfl (.tmp 38) (.tmp 40) 32 3 (.int .i64 0) 8 rfl Try.underlying32 info3 rfl (by decide) (by omega) u115001 x115001_2 x8_2 [.int .i64 x8_2] (fun _ => True) (fun _ => False) rfl rfl ?aP (fun _ hk => hk.elim) ?aF ?aO (Below.refl _ _) ?aS ?aL ?_;(case aP => exact rfl);(case aF => exact (fun _ _ => trivial));(case aO => exact (ZK HO_115001));(case aS => exact (keep_size (w := w) (g := g) (row := none) (ZW HK)));(case aL => have := LMc24.out;omega);intro v119 w28 ho hb hg hat;rw [← Ny118.out] at ho;replace HO_3 := Aside0.mk (Kd.S_after (ok := (fun k_ => k_ ≠ gb114)) (ZKS ⟨Kd.S_mono HO_3.out (fun _ hk => ⟨hk.2,hk.1⟩)⟩) hg hat);replace HO_4 := Aside0.mk (Kd.R_over' (ZK HO_4) (Kd.R_typed (ZK HO_115001)) (by decide) hg);replace BK114 := Aside0.mk (blk_grown (g := gb114) (o := .cells #[.string (rdOf ByteArray.empty y101 x6_1),u115001,.int .i64 t111] 43 (0,0)) (ZH BK114) hg (Kd.R_ne HO_115001.out BK114.out (by decide)));replace HB := Aside0.mk (below_weaken (by repeat (first|(with_reducible first|exact HB.out|apply zbA|apply zbB|apply zbC|refine below_set ?_ (IsS49.ge HI0.out)|refine below_set ?_ GE114.out)|exact HB.out)) HL.out hb);replace HI0 := Aside0.mk (IsS49.grown (ZS HI0) hg (IsS49.own_ne HI0.out HO_115001.out (by decide)));replace HK := Aside0.mk (KeepBut.trans (ZW HK) (KeepBut.of_grown hg g) (Kd.R_base2 HO_115001.out));have HO120 := Aside0.mk (ho);clear HO_115001;clear ho hb hg hat;obtain ⟨Ao29,co29,eo29⟩ := Kd.R_slice HO120.out;subst eo29;have hcz30_0 : w28.cell? ⟨gb114,0,none⟩ = some (.string (rdOf ByteArray.empty y101 x6_1)) := ZC BK114 0 rfl;have hcz30_1 : w28.cell? ⟨gb114,1,none⟩ = some (u115001) := ZC BK114 1 rfl;have hcz30_2 : w28.cell? ⟨gb114,2,none⟩ = some (.int .i64 t111) := ZC BK114 2 rfl;have hfz30_0 := blk_frozen BK114.out 0;have hfz30_1 := blk_frozen BK114.out 1;have hfz30_2 := blk_frozen BK114.out 2))
      go_roundg k2
      case measure => have := HK1.out;have := HK2.out;omega
      case rel => exact ⟨(wrap64 (x8_2 + 1)),(t116),(t117),(y118),(.slice Ao29 y118.length co29),(by first|rfl|(simp;done)|(simp [*];done)),H',⟨by have := HK1.out;have := HK2.out;omega⟩,⟨ZKS ⟨Kd.S_mono (Kd.S_far (p := ⟨gb114,1,none⟩) (Kd.S_mono HO_3.out (fun k_ hk => (⟨hk,hk.1⟩ : _ ∧ k_ ≠ gb114))) (fun _ hk => hk.2) (.slice Ao29 y118.length co29)) (fun _ hk => ⟨hk.1.2,hk.1.1⟩)⟩⟩,⟨ZK ⟨Kd.R_mono (Kd.R_far (p := ⟨gb114,1,none⟩) (Kd.R_types HO_4.out BK114.out (by decide)) (fun _ hk => hk.2) (.slice Ao29 y118.length co29)) (fun _ hk => trivial)⟩⟩,⟨ZK ⟨Kd.R_mono (Kd.R_far (p := ⟨gb114,1,none⟩) (Kd.R_types HO120.out BK114.out (by decide)) (fun _ hk => hk.2) (.slice Ao29 y118.length co29)) (fun _ hk => trivial)⟩⟩,⟨by (with_reducible repeat (first|apply zhA|apply zhB|apply zhC));refine blk_put (cs := #[.string (rdOf ByteArray.empty y101 x6_1),u115001,.int .i64 t111]) ?_ 1 _ rfl;(with_reducible repeat (first|apply zhA|apply zhB|apply zhC));exact BK114.out⟩,⟨ZS HI0⟩,⟨ZW HK⟩,⟨by repeat (first|(with_reducible first|exact HB.out|apply zbA|apply zbB|apply zbC|refine below_set ?_ (IsS49.ge HI0.out)|refine below_set ?_ GE114.out)|exact HB.out)⟩⟩
   rw [if_neg c7] at H
   have c7b0 := decide_eq_false c7
   clear c7
   by_cases c37 : t104 > 0;rotate_left
   ·rw [if_neg c37] at H
    have c37b0 : decide (0 < t104) = false := decide_eq_false c37
    clear c37
    simp only [Option.some.injEq,Prod.mk.injEq] at H
    obtain ⟨rfl,rfl,rfl⟩ := H
    go_wp2
    go_ret
    exact ⟨_,by first|rfl|(simp [*,errW_none,errW_some] <;> rfl),by refine Kd.N_mono (Kd.S_N (Kd.S_bound (ok := fun _ => True) ?_)) (fun _ hk => hk.2.1);(with_reducible repeat (first|apply Kd.S_alloc|apply Kd.S_drewN|apply Kd.S_drew));exact HO_3.out,ZS HI0,by repeat (first|(with_reducible first|exact HB.out|apply zbA|apply zbB|apply zbC|refine below_set ?_ (IsS49.ge HI0.out))|exact HB.out),ZW HK⟩


   rw [if_pos c37] at H
   have c37b0 : decide (0 < t104) = true := decide_eq_true c37
   clear c37
   replace H := Option.bind_eq_some_iff.mp H
   obtain ⟨⟨t124,t125,t126⟩,A380,H⟩ := H
   try dsimp only at H
   have A38 := Aside0.mk A380
   clear A380
   replace H := Option.bind_eq_some_iff.mp H
   obtain ⟨⟨t127,t128,t129⟩,A390,H⟩ := H
   try dsimp only at H
   have A39 := Aside0.mk A390
   clear A390
   by_cases c40 : t127 = 0
   ·rw [if_pos c40] at H
    have c40b0 : (t127 == 0) = true := beq_iff_eq.mpr c40
    have c40b1 : (t127 != 0) = false := bne_eq_false_iff_eq.mpr c40
    clear c40
    by_cases c41 : 0 ≤ t124;rotate_left
    ·rw [if_neg c41] at H
     exact absurd H (by simp)
    rw [if_pos c41] at H
    have c41b0 : decide (0 ≤ t124) = true := decide_eq_true c41
    clear c41
    by_cases c42 : t124 < (x3_1.length : Int);rotate_left
    ·rw [if_neg c42] at H
     exact absurd H (by simp)
    rw [if_pos c42] at H
    have c42b0 : decide (t124 < (x3_1.length : Int)) = true := decide_eq_true c42
    clear c42
    replace H := Option.bind_eq_some_iff.mp H
    obtain ⟨⟨t131,t132,t133⟩,A430,H⟩ := H
    try dsimp only at H
    have A43 := Aside0.mk A430
    clear A430
    replace H := Option.bind_eq_some_iff.mp H
    obtain ⟨t134,A440,H⟩ := H
    try dsimp only at H
    have A44 := Aside0.mk A440
    clear A440
    obtain ⟨y137,hy137⟩ : ∃ y_ : List (S43),y_ = (x3_1.set (t124 : Int).toNat (⟨(rd_T43 x3_1 t124).f0,t134,(rd_T43 x3_1 t124).f2⟩ : S43)) := ⟨_,rfl⟩
    replace H : (some (y137,t132,t133)) = some (r1,r2,r3) := by first|(rw [hy137];with_reducible exact H)|(have H2_ := (Option.bind_some _ _).symm.trans H;rw [hy137];with_reducible exact H2_)|(have H2_ := (Option.bind_some _ _).symm.trans H;with_reducible exact H2_)|with_reducible exact H|(rw [hy137];exact H)|exact H
    have Ny137 := Aside0.mk hy137
    clear hy137
    simp only [Option.some.injEq,Prod.mk.injEq] at H
    obtain ⟨rfl,rfl,rfl⟩ := H
    replace HO_3 := Aside0.mk (Kd.N_mono (Kd.S_N (Kd.S_bound (IsS49.apartS HI0.out (Kd.S_apart' HO_3.out (Kd.R_typed HO_4.out) (by decide)) (by decide)))) (fun k_ hk => (⟨hk.2.1,hk.1.1.2,hk.1.2⟩ : (w.heap.size ≤ k_) ∧ some k_ ≠ ((.slice Ao5 y101.length co5) : Value).ownBlock ∧ k_ ≠ g)))
    replace HO_4 := Aside0.mk (Kd.R_mono (Kd.R_bound HO_4.out) (fun k_ hk => (hk.2.1 : w.heap.size ≤ k_)))
    try go_wp2_with (first|((with_reducible refine gate_callee (f := 42) rfl ?_);refine goesM_ (some 51) Try.func42 #[.pointer (some ⟨g,0,none⟩),.int .i64 t104] ?_;(with_reducible refine (spec_l1Cur_pick.calls g s0_0 x1001_1 x1002_1 t104 t124 t125 t126 w0 _ ?side1 ?side2 A38.out).mono ?_);(case side1 => repeat (first|(with_reducible first|exact HI0.out|apply zsA|apply zsB|apply zsC|apply zsD|apply zsE)|exact HI0.out));(case side2 => repeat (first|(with_reducible first|exact HB.out|apply zbA|apply zbB|apply zbC|refine below_set ?_ (IsS49.ge HI0.out))|exact HB.out));rintro e w46 ⟨rfl,hi,hb,hk⟩;refine ⟨_,rfl,?_⟩;replace HO_3 := Aside0.mk (Kd.N_mono (Kd.N_keep (Kd.N_mono (ok := fun k_ => (((w.heap.size ≤ k_)) ∧ (some k_ ≠ (.slice Ao5 y101.length co5 : Value).ownBlock ∧ k_ ≠ g))) (ZKN HO_3) (fun k_ hk_ => (⟨hk_,hk_.2.2⟩ : _ ∧ k_ ≠ g))) hk (fun _ h => h.2)) (fun _ h => h.1));replace HO_4 := Aside0.mk (Kd.R_mono (Kd.R_keep (IsS49.apart (show IsS49 w0 _ g s0_0 x1001_1 x1002_1 from ZS HI0) (ZK HO_4) (by decide)) hk (fun _ h => h.2)) (fun _ h => h.1));replace HK := Aside0.mk (KeepBut.trans (ZW HK) hk (.inl rfl));replace HB := Aside0.mk (hb);replace HI0 := Aside0.mk (hi);(try clear hb))|((with_reducible refine gate_callee (f := 42) rfl ?_);refine goesM_ (some 53) Try.func42 #[.pointer (some ⟨g,0,none⟩),.int .i64 16] ?_;(with_reducible refine (spec_l1Cur_pick.calls g s0_0 t125 t126 16 t127 t128 t129 w0 _ ?side1 ?side2 A39.out).mono ?_);(case side1 => repeat (first|(with_reducible first|exact HI0.out|apply zsA|apply zsB|apply zsC|apply zsD|apply zsE)|exact HI0.out));(case side2 => repeat (first|(with_reducible first|exact HB.out|apply zbA|apply zbB|apply zbC|refine below_set ?_ (IsS49.ge HI0.out))|exact HB.out));rintro e w47 ⟨rfl,hi,hb,hk⟩;refine ⟨_,rfl,?_⟩;replace HO_3 := Aside0.mk (Kd.N_mono (Kd.N_keep (Kd.N_mono (ok := fun k_ => (((w.heap.size ≤ k_)) ∧ (some k_ ≠ (.slice Ao5 y101.length co5 : Value).ownBlock ∧ k_ ≠ g))) (ZKN HO_3) (fun k_ hk_ => (⟨hk_,hk_.2.2⟩ : _ ∧ k_ ≠ g))) hk (fun _ h => h.2)) (fun _ h => h.1));replace HO_4 := Aside0.mk (Kd.R_mono (Kd.R_keep (IsS49.apart (show IsS49 w0 _ g s0_0 t125 t126 from ZS HI0) (ZK HO_4) (by decide)) hk (fun _ h => h.2)) (fun _ h => h.1));replace HK := Aside0.mk (KeepBut.trans (ZW HK) hk (.inl rfl));replace HB := Aside0.mk (hb);replace HI0 := Aside0.mk (hi);(try clear hb)))
    replace HO_3 := Aside0.mk (Kd.N_drew HO_3.out)
    replace HO_4 := Aside0.mk (Kd.R_drew HO_4.out)
    replace HI0 := Aside0.mk (IsS49.drew HI0.out)
    replace HK := Aside0.mk (keep_drew HK.out)
    replace HB := Aside0.mk (below_drew1 HB.out)
    obtain ⟨Ao49,co49,eo49⟩ := Kd.N_slice HO_3.out
    (first|subst eo49|(injection eo49 with f1_ f2_ f3_;have f4_ := f1_.symm;have f5_ := f3_.symm;clear f1_ f2_ f3_;subst f4_;subst f5_))
    have p130 : 0 ≤ (t124 : Int) := ZD
    have q130 : t124 < (x3_1.length : Int) := ZD
    obtain ⟨ad130,A130_1,c130_1,e130,hx130_0,hx130_1,hx130_2,hl130_1,hi130_1⟩ := at_T43 (Kd.N_reads' HO_3.out).2.2 t124 p130 q130
    cases e130
    obtain ⟨ce130,hce130,hMe130,hcc130⟩ := Kd.N_get HO_3.out z43 t124 p130 (by first|exact q130|exact ZD|(have e_ := (Kd.N_reads' HO_3.out).1;omega))
    obtain ⟨ua130_1,uc130_1,rfl,ul130_1,ge130_1⟩ := k43_openF hMe130
    have hv130_1 := hcc130 1 _ rfl
    rw [add_field _ _ 1 (by omega)] at hv130_1
    replace hv130_1 := Option.some.inj (hv130_1.symm.trans hx130_1)
    injection hv130_1 with hva_ hvn_ hvc_
    rw [hva_] at ge130_1
    rw [hvc_] at ul130_1
    have HL130_1 := Aside0.mk (show Kd.V (Kd.int .i64) 3 _ w.heap.size _ _ ((rd_T43 x3_1 t124).f1) from Kd.V_mk ul130_1 ge130_1)
    clear hva_ hvn_ hvc_ ge130_1 ul130_1
    clear hcc130 hce130
    have HR130_1 := Aside0.mk hi130_1
    have HC130_1 := Aside0.mk hl130_1
    clear hi130_1 hl130_1
    replace p130 := eq_true p130
    replace q130 := eq_true q130
    refine start_ (n := 14) (S := fun w' => w'.cell? (ad130.add ((t124).toNat * 3)) = some (.string ((rd_T43 x3_1 t124).f0)) ∧ w'.cell? ⟨(ad130.add ((t124).toNat * 3)).block,(ad130.add ((t124).toNat * 3)).off + 1,none⟩ = some (.slice A130_1 ((rd_T43 x3_1 t124).f1).length c130_1) ∧ w'.cell? ⟨(ad130.add ((t124).toNat * 3)).block,(ad130.add ((t124).toNat * 3)).off + 2,none⟩ = some (.int .i64 ((rd_T43 x3_1 t124).f2))) (ds := [13]) #[X,X,X,X,X,X,X,X,X,X,X,X,X,X] (by kernel_rfl) rfl rfl ⟨hx130_0,hx130_1,hx130_2⟩ (fun hHeld => ?_);refine with_tabW spec_l1Cur_words.tab18 spec_l1Cur_words.bits18 (fun HT_ HW_ => ?_)
    generalize w47.drew = w48 at HO_3 HO_4 HI0 HK HB HL130_1 HR130_1 hx130_0 hx130_1 hx130_2 hHeld ⊢
    refine YP 0 56 #[Y,X,X,X,X,X,X,X,X,X,X,X,X,X] rfl rfl HT_ ?_
    refine YP 1 57 #[Y,Y,X,X,X,X,X,X,X,X,X,X,X,X] rfl rfl HT_ ?_
    refine YP 2 58 #[Y,Y,Y,X,X,X,X,X,X,X,X,X,X,X] rfl rfl HT_ ?_
    refine YP 3 59 #[Y,Y,Y,Y,X,X,X,X,X,X,X,X,X,X] rfl rfl HT_ ?_
    refine YP 4 60 #[Y,Y,Y,Y,Y,X,X,X,X,X,X,X,X,X] rfl rfl HT_ ?_
    refine YP 5 61 #[Y,Y,Y,Y,Y,Y,X,X,X,X,X,X,X,X] rfl rfl HT_ ?_
    refine YP 7 63 #[Y,Y,Y,Y,Y,Y,X,Y,X,X,X,X,X,X] rfl rfl HT_ ?_
    refine YP 8 64 #[Y,Y,Y,Y,Y,Y,X,Y,Y,X,X,X,X,X] rfl rfl HT_ ?_
    refine YT 6 62 #[Y,Y,Y,Y,Y,Y,Y,Y,Y,X,X,X,X,X] rfl rfl HT_ HW_ hHeld ?_
    refine ZO 9 65 #[Y,Y,Y,Y,Y,Y,Y,Y,Y,Y,X,X,X,X] rfl rfl HT_ fun K hK => ?_
    refine goes_ Try.func42 (by kernel_rfl) rfl #[.pointer (some ⟨g,0,none⟩),.int .i64 t104] (by rfl) rfl rfl (by (try simp only [List.map_toArray,List.map_cons,List.map_nil]);first|done|rfl|(simp only [List.length_drop,List.length_take];rfl)) ?_
    with_reducible refine (spec_l1Cur_pick.calls g s0_0 t128 t129 t104 t131 t132 t133 w0 _ ?side1 ?side2 A43.out).mono ?_
    (case side1 => repeat (first|(with_reducible first|exact HI0.out|apply zsA|apply zsB|apply zsC|apply zsD|apply zsE)|exact HI0.out))
    (case side2 => repeat (first|(with_reducible first|exact HB.out|apply zbA|apply zbB|apply zbC|refine below_set ?_ (IsS49.ge HI0.out))|exact HB.out))
    rintro e w50 ⟨rfl,hi,hb,hk⟩
    have HS0_ := keep_cell hk (hHeld.1) (by first|(rw [add_block];exact Kd.own_blk (IsS49.own_neN HI0.out HO_3.out (by decide)))|(show (Addr.add _ _).block ≠ _;rw [add_block];exact Kd.own_blk (IsS49.own_neN HI0.out HO_3.out (by decide)))|exact Kd.own_blk (IsS49.own_neN HI0.out HO_3.out (by decide)))
    have HS1_ := keep_cell hk (hHeld.2.1) (by first|(rw [add_block];exact Kd.own_blk (IsS49.own_neN HI0.out HO_3.out (by decide)))|(show (Addr.add _ _).block ≠ _;rw [add_block];exact Kd.own_blk (IsS49.own_neN HI0.out HO_3.out (by decide)))|exact Kd.own_blk (IsS49.own_neN HI0.out HO_3.out (by decide)))
    have HS2_ := keep_cell hk (hHeld.2.2) (by first|(rw [add_block];exact Kd.own_blk (IsS49.own_neN HI0.out HO_3.out (by decide)))|(show (Addr.add _ _).block ≠ _;rw [add_block];exact Kd.own_blk (IsS49.own_neN HI0.out HO_3.out (by decide)))|exact Kd.own_blk (IsS49.own_neN HI0.out HO_3.out (by decide)))
    refine ⟨_,rfl,?_⟩
    replace HO_3 := Aside0.mk (Kd.N_mono (Kd.N_keep (Kd.N_mono (ok := fun k_ => (((w.heap.size ≤ k_)) ∧ (some k_ ≠ (.slice Ao5 y101.length co5 : Value).ownBlock ∧ k_ ≠ g))) (ZKN HO_3) (fun k_ hk_ => (⟨hk_,hk_.2.2⟩ : _ ∧ k_ ≠ g))) hk (fun _ h => h.2)) (fun _ h => h.1))
    replace HO_4 := Aside0.mk (Kd.R_mono (Kd.R_keep (IsS49.apart (show IsS49 w0 _ g s0_0 t128 t129 from ZS HI0) (ZK HO_4) (by decide)) hk (fun _ h => h.2)) (fun _ h => h.1))
    replace HL130_1 := Aside0.mk (Kd.V_mono (Kd.V_keep (Kd.V_mono (ok := fun k_ => ((((w.heap.size ≤ k_)) ∧ (some k_ ≠ (.slice Ao5 y101.length co5 : Value).ownBlock ∧ k_ ≠ g)) ∧ some k_ ≠ (.slice (some ad130) x3_1.length co49 : Value).ownBlock)) (ZKV HL130_1) (fun k_ hk_ => (⟨hk_,hk_.1.2.2⟩ : _ ∧ k_ ≠ g))) hk (fun _ h => h.2)) (fun _ h => h.1))
    replace HK := Aside0.mk (KeepBut.trans (ZW HK) hk (.inl rfl))
    replace HB := Aside0.mk (hb)
    replace HI0 := Aside0.mk (hi)
    refine hK.out _ _ ⟨HS0_,HS1_,HS2_⟩ (fun hHeld => ?_)
    clear hK K
    refine norm_ (a' := ?_) ?_ ?_
    rotate_left
    ·show Act.put _ (some 65) _ = _
     simp only [Act.put,zuA,zuB,zuC,i64_w,i32_w]
     rfl
    refine ZO 10 66 #[Y,Y,Y,Y,Y,Y,Y,Y,Y,Y,Y,X,X,X] rfl rfl HT_ fun K hK => ?_
    refine goes_ Try.func43 (by kernel_rfl) rfl #[.slice A130_1 ((rd_T43 x3_1 t124).f1).length c130_1,.int .i64 t131] (by rfl) rfl rfl (by (try simp only [List.map_toArray,List.map_cons,List.map_nil]);first|done|rfl|(simp only [List.length_drop,List.length_take];rfl)) ?_
    with_reducible refine (spec_l1Put.calls k1 (fun k_ => (((w.heap.size ≤ k_) ∧ (some k_ ≠ (.slice Ao5 y101.length co5 : Value).ownBlock ∧ k_ ≠ g)) ∧ some k_ ≠ (.slice (some ad130) x3_1.length co49 : Value).ownBlock)) _ _ ((rd_T43 x3_1 t124).f1) t131 t134 _ ?side1 A44.out).mono ?_
    (case side1 => exact HL130_1.out)
    rintro e w51 ⟨v135,rfl,ho0,hb⟩
    have HS0_ := (hb.cell (World.block_lt_of_cell? _ _ (hHeld.1))).trans (hHeld.1)
    have HS1_ := (hb.cell (World.block_lt_of_cell? _ _ (hHeld.2.1))).trans (hHeld.2.1)
    have HS2_ := (hb.cell (World.block_lt_of_cell? _ _ (hHeld.2.2))).trans (hHeld.2.2)
    refine ⟨_,rfl,?_⟩
    replace HL130_1 := ZBV HL130_1 hb
    have HO136 := Aside0.mk (Kd.V_lower (Kd.V_mono (ok' := fun k_ => (w.heap.size ≤ k_) ∧ some k_ ≠ (.slice (some ad130) x3_1.length co49 : Value).ownBlock ∧ some k_ ≠ (.slice Ao5 y101.length co5 : Value).ownBlock ∧ k_ ≠ g) ho0 (fun k_ hk_ => ⟨Or.elim hk_ (fun hs_ => hs_.1.1) (fun hn_ => (Nat.le_trans (keep_size (w := w) (g := g) (row := none) (ZW HK)) hn_)),Or.elim hk_ (fun hs_ => hs_.2) (fun hn_ => (Kd.fresh' (Kd.N_lt (ZKN HO_3)) k_ hn_)),Or.elim hk_ (fun hs_ => hs_.1.2.1) (fun hn_ => (Kd.fresh' (Kd.R_lt (ZK HO_4)) k_ hn_)),Or.elim hk_ (fun hs_ => hs_.1.2.2) (fun hn_ => (IsS49.fresh (ZS HI0) k_ hn_))⟩)) (keep_size (w := w) (g := g) (row := none) (ZW HK)))
    replace HO_3 := ZBN HO_3 hb
    replace HO_4 := ZBR HO_4 hb
    replace HK := Aside0.mk (KeepBut.trans (ZW HK) (KeepBut.of_below hb g none) (.inl rfl))
    replace HB := Aside0.mk (below_step (by repeat (first|(with_reducible first|exact HB.out|apply zbA|apply zbB|apply zbC|refine below_set ?_ (IsS49.ge HI0.out))|exact HB.out)) hb)
    replace HI0 := Aside0.mk (IsS49.below (ZS HI0) hb)
    have p45 : 0 ≤ (t124 : Int) := ZD
    have q45 : (t124 : Int) < ((x3_1.length : Int) : Int) := ZD
    obtain ⟨go45,co45,eo45,gb45,gl45,cl45,HG45⟩ := Kd.N_form HO_3.out (by omega)
    (first|cases eo45|(injection eo45 with ea_ en_ ec_;(first|subst ea_|(injection ea_ with ea_;subst ea_));subst ec_;clear en_))
    have GB45 := Aside0.mk gb45
    have GG45 := Aside0.mk HG45
    clear gb45 gl45 HG45
    (first|simp only [add_plain] at hx130_0|skip)
    (first|simp only [add_plain] at hx130_1|skip)
    (first|simp only [add_plain] at hx130_2|skip)
    obtain ⟨ce45,hcl45,hM45,hcc45,hfr45⟩ := Kd.N_elem HO_3.out z43 (t124 : Int) p45 q45
    obtain ⟨ua45_1,uc45_1,rfl,ul45_1,ge45_1⟩ := k43_openF hM45
    have hx45_0 : World.cell? _ ⟨go45,(t124 : Int).toNat * 3,none⟩ = some (.string ((rd_T43 x3_1 t124).f0)) := hcc45 0 _ rfl
    have hx45_1 : World.cell? _ ⟨go45,(t124 : Int).toNat * 3 + 1,none⟩ = some (.slice ua45_1 ((rd_T43 x3_1 t124).f1).length uc45_1) := hcc45 1 _ rfl
    have hx45_2 : World.cell? _ ⟨go45,(t124 : Int).toNat * 3 + 2,none⟩ = some (.int .i64 ((rd_T43 x3_1 t124).f2)) := hcc45 2 _ rfl
    have hf45_0 : World.frozen? _ ⟨go45,(t124 : Int).toNat * 3,none⟩ = false := hfr45 0
    have hf45_1 : World.frozen? _ ⟨go45,(t124 : Int).toNat * 3 + 1,none⟩ = false := hfr45 1
    have hf45_2 : World.frozen? _ ⟨go45,(t124 : Int).toNat * 3 + 2,none⟩ = false := hfr45 2
    clear hcl45 hcc45 hfr45 hM45
    replace p45 := eq_true p45
    replace q45 := eq_true q45
    have HN0_go45 := Aside0.mk (show g ≠ go45 from by have h_ := IsS49.own_neN HI0.out HO_3.out (by decide);intro e_;exact h_ (by rw [e_];rfl))
    have HX52 := Aside0.mk (show Kd.N k43 43 _ w.heap.size (fun k_ => (w.heap.size ≤ k_) ∧ some k_ ≠ (.slice Ao5 y101.length co5 : Value).ownBlock ∧ k_ ≠ g) (.slice (some ⟨go45,0,none⟩) x3_1.length co49) x3_1 from (Kd.N_mono (HO_3.out) (fun k_ hk => ⟨hk.1,⟨hk.2.1,hk.2.2⟩⟩)))
    obtain ⟨ce52,hcl52,hM52,hcc52,hfr52⟩ := Kd.N_elem HX52.out z43 (t124 : Int) ZD (by have h_ : (t124 : Int) < ((x3_1.length : Int) : Int) := ZD;first|exact h_|(have e_ := (Kd.N_reads' HO_3.out).1;omega)|simpa using h_)
    obtain ⟨ua52_1,uc52_1,rfl,ul52_1,ge52_1⟩ := k43_openF hM52
    obtain ⟨Av52_,cv52_,ev52_⟩ := Kd.V_slice HO136.out
    subst ev52_
    have hv52_0 := Kd.V_mono (ok' := (fun k_ => ((fun k_ => (w.heap.size ≤ k_) ∧ some k_ ≠ (.slice Ao5 y101.length co5 : Value).ownBlock ∧ k_ ≠ g)) k_ ∧ k_ ≠ go45)) (HO136.out) (fun k_ hk => ⟨⟨hk.1,⟨hk.2.2.1,hk.2.2.2⟩⟩,fun e_ => (hk.2.1) (by rw [e_];rfl)⟩)
    have HP52 := (Kd.N_seg HX52.out (t124 : Int) ZD (by have h_ : (t124 : Int) < ((x3_1.length : Int) : Int) := ZD;first|exact h_|(have e_ := (Kd.N_reads' HO_3.out).1;omega)|simpa using h_) (seg := [(.slice Av52_ t134.length cv52_)]) (j := 1) hcl52 hcc52 (show 2 ≤ 3 from by decide) (x' := (⟨(rd_T43 x3_1 t124).f0,t134,(rd_T43 x3_1 t124).f2⟩ : S43)) (k43_mkF _ _ (⟨(rd_T43 x3_1 t124).f0,t134,(rd_T43 x3_1 t124).f2⟩ : S43) (Kd.V_reads' hv52_0).2.1 (Kd.V_F hv52_0)) (fun _ hk => hk)).1
    rw [← Ny137.out] at HP52
    have HQ52 := Aside0.mk HP52
    clear hcl52 hcc52 hfr52 hM52 HP52
    refine hK.out _ _ ⟨HS0_,HS1_,HS2_⟩ (fun hHeld => ?_)
    clear hK K
    refine norm_ (a' := ?_) ?_ ?_
    rotate_left
    ·show Act.put _ (some 66) _ = _
     simp only [Act.put,zuA,zuB,zuC,i64_w,i32_w]
     rfl
    refine YP 11 67 #[Y,Y,Y,Y,Y,Y,Y,Y,Y,Y,Y,Y,X,X] rfl rfl HT_ ?_
    refine YP 12 68 #[Y,Y,Y,Y,Y,Y,Y,Y,Y,Y,Y,Y,Y,X] rfl rfl HT_ ?_
    refine last_ (i := 13) (N := none) #[Y,Y,Y,Y,Y,Y,Y,Y,Y,Y,Y,Y,Y,Y] rfl rfl (one_of HT_.out (by kernel_rfl)) (by decide) (fun K hK => ?_)
    refine skip_ (w1 := ?_) (by rfl) rfl ?_ ?_
    rotate_left
    ·go_simp
     rfl
    refine hK.out _ _ ?_
    clear hK K
    refine done_ (done_of HT_.out (by kernel_rfl)) ?_
    try go_wp2
    go_ret
    exact ⟨_,by first|rfl|(simp [*,errW_none,errW_some] <;> rfl),ZKN ⟨Kd.N_mono HQ52.out (fun _ hk => hk.1)⟩,by repeat (first|(with_reducible first|exact HI0.out|apply zsA|apply zsB|apply zsC|apply zsD|apply zsE|refine IsS49.far ?_ HN0_go45.out _)|exact HI0.out),by repeat (first|(with_reducible first|exact HB.out|apply zbA|apply zbB|apply zbC|refine below_set ?_ (Nat.le_trans HL.out GB45.out)|refine below_set ?_ (IsS49.ge HI0.out))|exact HB.out),ZW HK⟩
   rw [if_neg c40] at H
   have c40b0 : (t127 == 0) = false := beq_eq_false_iff_ne.mpr c40
   have c40b1 : (t127 != 0) = true := bne_iff_ne.mpr c40
   by_cases c53 : t127 = 1
   ·rw [if_pos c53] at H
    have c53b0 : (t127 == 1) = true := beq_iff_eq.mpr c53
    have c53b1 : (t127 != 1) = false := bne_eq_false_iff_eq.mpr c53
    clear c53
    by_cases c54 : 0 ≤ t124;rotate_left
    ·rw [if_neg c54] at H
     exact absurd H (by simp)
    rw [if_pos c54] at H
    have c54b0 : decide (0 ≤ t124) = true := decide_eq_true c54
    clear c54
    by_cases c55 : t124 < (x3_1.length : Int);rotate_left
    ·rw [if_neg c55] at H
     exact absurd H (by simp)
    rw [if_pos c55] at H
    have c55b0 : decide (t124 < (x3_1.length : Int)) = true := decide_eq_true c55
    clear c55
    obtain ⟨y139,hy139⟩ : ∃ y_ : List Int,y_ = (([(-1),t104,0] : List Int)) := ⟨_,rfl⟩
    replace H : ((spec_l1Cur_among.f s0_0 t128 t129 y139).bind fun bt142 => (if ((rd_T43 x3_1 t124).f1).length < 17592186044416 then (some ((x3_1.set (t124 : Int).toNat (⟨(rd_T43 x3_1 t124).f0,(((rd_T43 x3_1 t124).f1) ++ [bt142.1]),(rd_T43 x3_1 t124).f2⟩ : S43)),bt142.2.1,bt142.2.2)) else (none))) = some (r1,r2,r3) := by first|(rw [hy139];with_reducible exact H)|(have H2_ := (Option.bind_some _ _).symm.trans H;rw [hy139];with_reducible exact H2_)|(have H2_ := (Option.bind_some _ _).symm.trans H;with_reducible exact H2_)|with_reducible exact H|(rw [hy139];exact H)|exact H
    have Ny139 := Aside0.mk hy139
    clear hy139
    replace H := Option.bind_eq_some_iff.mp H
    obtain ⟨⟨t142,t143,t144⟩,A560,H⟩ := H
    try dsimp only at H
    have A56 := Aside0.mk A560
    clear A560
    by_cases c57 : ((rd_T43 x3_1 t124).f1).length < 17592186044416;rotate_left
    ·rw [if_neg c57] at H
     exact absurd H (by simp)
    rw [if_pos c57] at H
    have LMc57 := Aside0.mk c57
    clear c57
    obtain ⟨y145,hy145⟩ : ∃ y_ : List Int,y_ = (((rd_T43 x3_1 t124).f1) ++ [t142]) := ⟨_,rfl⟩
    replace H : (some ((x3_1.set (t124 : Int).toNat (⟨(rd_T43 x3_1 t124).f0,y145,(rd_T43 x3_1 t124).f2⟩ : S43)),t143,t144)) = some (r1,r2,r3) := by first|(rw [hy145];with_reducible exact H)|(have H2_ := (Option.bind_some _ _).symm.trans H;rw [hy145];with_reducible exact H2_)|(have H2_ := (Option.bind_some _ _).symm.trans H;with_reducible exact H2_)|with_reducible exact H|(rw [hy145];exact H)|exact H
    have Ny145 := Aside0.mk hy145
    clear hy145
    obtain ⟨y148,hy148⟩ : ∃ y_ : List (S43),y_ = (x3_1.set (t124 : Int).toNat (⟨(rd_T43 x3_1 t124).f0,y145,(rd_T43 x3_1 t124).f2⟩ : S43)) := ⟨_,rfl⟩
    replace H : (some (y148,t143,t144)) = some (r1,r2,r3) := by first|(rw [hy148];with_reducible exact H)|(have H2_ := (Option.bind_some _ _).symm.trans H;rw [hy148];with_reducible exact H2_)|(have H2_ := (Option.bind_some _ _).symm.trans H;with_reducible exact H2_)|with_reducible exact H|(rw [hy148];exact H)|exact H
    have Ny148 := Aside0.mk hy148
    clear hy148
    simp only [Option.some.injEq,Prod.mk.injEq] at H
    obtain ⟨rfl,rfl,rfl⟩ := H
    try go_wp2_with (first|((with_reducible refine gate_callee (f := 42) rfl ?_);refine goesM_ (some 51) Try.func42 #[.pointer (some ⟨g,0,none⟩),.int .i64 t104] ?_;(with_reducible refine (spec_l1Cur_pick.calls g s0_0 x1001_1 x1002_1 t104 t124 t125 t126 w0 _ ?side1 ?side2 A38.out).mono ?_);(case side1 => repeat (first|(with_reducible first|exact HI0.out|apply zsA|apply zsB|apply zsC|apply zsD|apply zsE)|exact HI0.out));(case side2 => repeat (first|(with_reducible first|exact HB.out|apply zbA|apply zbB|apply zbC|refine below_set ?_ (IsS49.ge HI0.out))|exact HB.out));rintro e w59 ⟨rfl,hi,hb,hk⟩;refine ⟨_,rfl,?_⟩;replace HO_3 := Aside0.mk (Kd.S_mono (Kd.S_keep (IsS49.apartS (show IsS49 w0 _ g s0_0 x1001_1 x1002_1 from ZS HI0) (ZKS HO_3) (by decide)) hk (fun _ h => h.2)) (fun _ h => h.1));replace HO_4 := Aside0.mk (Kd.R_mono (Kd.R_keep (IsS49.apart (show IsS49 w0 _ g s0_0 x1001_1 x1002_1 from ZS HI0) (ZK HO_4) (by decide)) hk (fun _ h => h.2)) (fun _ h => h.1));replace HK := Aside0.mk (KeepBut.trans (ZW HK) hk (.inl rfl));replace HB := Aside0.mk (hb);replace HI0 := Aside0.mk (hi);(try clear hb))|((with_reducible refine gate_callee (f := 42) rfl ?_);refine goesM_ (some 53) Try.func42 #[.pointer (some ⟨g,0,none⟩),.int .i64 16] ?_;(with_reducible refine (spec_l1Cur_pick.calls g s0_0 t125 t126 16 t127 t128 t129 w0 _ ?side1 ?side2 A39.out).mono ?_);(case side1 => repeat (first|(with_reducible first|exact HI0.out|apply zsA|apply zsB|apply zsC|apply zsD|apply zsE)|exact HI0.out));(case side2 => repeat (first|(with_reducible first|exact HB.out|apply zbA|apply zbB|apply zbC|refine below_set ?_ (IsS49.ge HI0.out))|exact HB.out));rintro e w60 ⟨rfl,hi,hb,hk⟩;refine ⟨_,rfl,?_⟩;replace HO_3 := Aside0.mk (Kd.S_mono (Kd.S_keep (IsS49.apartS (show IsS49 w0 _ g s0_0 t125 t126 from ZS HI0) (ZKS HO_3) (by decide)) hk (fun _ h => h.2)) (fun _ h => h.1));replace HO_4 := Aside0.mk (Kd.R_mono (Kd.R_keep (IsS49.apart (show IsS49 w0 _ g s0_0 t125 t126 from ZS HI0) (ZK HO_4) (by decide)) hk (fun _ h => h.2)) (fun _ h => h.1));replace HK := Aside0.mk (KeepBut.trans (ZW HK) hk (.inl rfl));replace HB := Aside0.mk (hb);replace HI0 := Aside0.mk (hi);(try clear hb)))
    replace HO_3 := Aside0.mk (Kd.S_drew HO_3.out)
    replace HO_4 := Aside0.mk (Kd.R_drew HO_4.out)
    replace HI0 := Aside0.mk (IsS49.drew HI0.out)
    replace HK := Aside0.mk (keep_drew HK.out)
    replace HB := Aside0.mk (below_drew1 HB.out)
    obtain ⟨Ao62,co62,eo62⟩ := Kd.S_slice HO_3.out
    (first|subst eo62|(injection eo62 with f1_ f2_ f3_;have f4_ := f1_.symm;have f5_ := f3_.symm;clear f1_ f2_ f3_;subst f4_;subst f5_))
    have p138 : 0 ≤ (t124 : Int) := ZD
    have q138 : t124 < (x3_1.length : Int) := ZD
    obtain ⟨ad138,A138_1,c138_1,e138,hx138_0,hx138_1,hx138_2,hl138_1,hi138_1⟩ := at_T43 (Kd.S_reads' HO_3.out).2.2 t124 p138 q138
    cases e138
    obtain ⟨ce138,hce138,hMe138,hcc138⟩ := Kd.S_get HO_3.out z43 t124 p138 (by first|exact q138|exact ZD|(have e_ := (Kd.S_reads' HO_3.out).1;omega))
    obtain ⟨ve138_1,rfl,ge138_1⟩ := k43_openM hMe138
    have hv138_1 := hcc138 1 _ rfl
    rw [add_field _ _ 1 (by omega)] at hv138_1
    replace hv138_1 := Option.some.inj (hv138_1.symm.trans hx138_1)
    rw [hv138_1] at ge138_1
    have HL138_1 := Aside0.mk (show Kd.R (Kd.int .i64) 3 _ _ _ _ ((rd_T43 x3_1 t124).f1) from ge138_1)
    clear hv138_1 ge138_1
    have HX138_1 := Aside0.mk hx138_1
    clear hcc138 hce138
    have HR138_1 := Aside0.mk hi138_1
    have HC138_1 := Aside0.mk hl138_1
    clear hi138_1 hl138_1
    replace p138 := eq_true p138
    replace q138 := eq_true q138
    refine start_ (n := 16) (S := fun w' => w'.cell? (ad138.add ((t124).toNat * 3)) = some (.string ((rd_T43 x3_1 t124).f0)) ∧ w'.cell? ⟨(ad138.add ((t124).toNat * 3)).block,(ad138.add ((t124).toNat * 3)).off + 1,none⟩ = some (.slice A138_1 ((rd_T43 x3_1 t124).f1).length c138_1) ∧ w'.cell? ⟨(ad138.add ((t124).toNat * 3)).block,(ad138.add ((t124).toNat * 3)).off + 2,none⟩ = some (.int .i64 ((rd_T43 x3_1 t124).f2))) (ds := [15]) #[X,X,X,X,X,X,X,X,X,X,X,X,X,X,X,X] (by kernel_rfl) rfl rfl ⟨hx138_0,hx138_1,hx138_2⟩ (fun hHeld => ?_);refine with_tabW spec_l1Cur_words.tab20 spec_l1Cur_words.bits20 (fun HT_ HW_ => ?_)
    generalize w60.drew = w61 at HO_3 HO_4 HI0 HK HB HL138_1 HR138_1 HX138_1 hx138_0 hx138_1 hx138_2 hHeld ⊢
    refine YP 0 71 #[Y,X,X,X,X,X,X,X,X,X,X,X,X,X,X,X] rfl rfl HT_ ?_
    refine YP 1 72 #[Y,Y,X,X,X,X,X,X,X,X,X,X,X,X,X,X] rfl rfl HT_ ?_
    refine YP 2 73 #[Y,Y,Y,X,X,X,X,X,X,X,X,X,X,X,X,X] rfl rfl HT_ ?_
    refine YP 3 74 #[Y,Y,Y,Y,X,X,X,X,X,X,X,X,X,X,X,X] rfl rfl HT_ ?_
    refine YP 4 75 #[Y,Y,Y,Y,Y,X,X,X,X,X,X,X,X,X,X,X] rfl rfl HT_ ?_
    refine YP 5 76 #[Y,Y,Y,Y,Y,Y,X,X,X,X,X,X,X,X,X,X] rfl rfl HT_ ?_
    refine YP 7 78 #[Y,Y,Y,Y,Y,Y,X,Y,X,X,X,X,X,X,X,X] rfl rfl HT_ ?_
    refine YP 8 79 #[Y,Y,Y,Y,Y,Y,X,Y,Y,X,X,X,X,X,X,X] rfl rfl HT_ ?_
    refine YT 6 77 #[Y,Y,Y,Y,Y,Y,Y,Y,Y,X,X,X,X,X,X,X] rfl rfl HT_ HW_ hHeld ?_
    refine ZO 9 80 #[Y,Y,Y,Y,Y,Y,Y,Y,Y,Y,X,X,X,X,X,X] rfl rfl HT_ fun K hK => ?_
    refine Kd.R_lit_step (Kd.int .i64) _ 3 ?hg (N := 80) ?hd (xs := ([(-1),t104,0] : List Int)) (inner := [.int .i64 (-1),.int .i64 t104,.int .i64 0]) (ok := fun _ => True) (okp := fun _ => True) ?hr ?hp (fun _ hk => hk) trivial (Below.refl _ _) (Nat.le_refl _) (by simp) ?_;(case hd => rfl);(case hg => rfl);(case hr => first|(go_simp;done)|(go_simp;rfl));(case hp => exact (Reps.one (show Kd.M (Kd.int .i64) _ _ _ (-1) [.int .i64 (-1)] from rfl) (Reps.one (show Kd.M (Kd.int .i64) _ _ _ t104 [.int .i64 t104] from rfl) (Reps.one (show Kd.M (Kd.int .i64) _ _ _ 0 [.int .i64 0] from rfl) (Reps.none _ _)))))
    intro v140 w63 ho64 hb hg_ hnew_
    have HS0_ := (hb.cell (World.block_lt_of_cell? _ _ (hHeld.1))).trans (hHeld.1)
    have HS1_ := (hb.cell (World.block_lt_of_cell? _ _ (hHeld.2.1))).trans (hHeld.2.1)
    have HS2_ := (hb.cell (World.block_lt_of_cell? _ _ (hHeld.2.2))).trans (hHeld.2.2)
    clear hg_ hnew_
    (first|rw [← Ny139.out] at ho64|(simp only [Int.reduceToNat] at ho64;rw [← Ny139.out] at ho64))
    replace HO_3 := Aside0.mk (Kd.S_elder' (ZKS HO_3) (Kd.R_base ho64) hb)
    replace HO_4 := ZBR HO_4 hb
    have HO141 := Aside0.mk (Kd.R_lower (Kd.R_new' ho64 (Kd.R_lt (ZK HL138_1))) (keep_size (w := w) (g := g) (row := none) (ZW HK)))
    replace HL138_1 := Aside0.mk (Kd.R_elder' (ZK HL138_1) (Kd.R_base ho64) hb)
    replace HR138_1 := Aside0.mk (Kd.C_below (by repeat (first|(with_reducible exact HR138_1.out)|(with_reducible refine Kd.C_alloc ?_ _)|(with_reducible refine Kd.C_drewN ?_ _)|(with_reducible refine Kd.C_drew ?_)|exact HR138_1.out)) hb)
    replace HX138_1 := Aside0.mk (pw_cell_below hb HX138_1.out)
    replace HK := Aside0.mk (KeepBut.trans (ZW HK) (KeepBut.of_below hb g none) (.inl rfl))
    replace HB := Aside0.mk (below_step (by repeat (first|(with_reducible first|exact HB.out|apply zbA|apply zbB|apply zbC|refine below_set ?_ (IsS49.ge HI0.out))|exact HB.out)) hb)
    replace HI0 := Aside0.mk (IsS49.below (ZS HI0) hb)
    clear hb ho64
    obtain ⟨Ao65,co65,eo65⟩ := Kd.R_slice HO141.out
    (first|subst eo65|(injection eo65 with f1_ f2_ f3_;have f4_ := f1_.symm;have f5_ := f3_.symm;clear f1_ f2_ f3_;subst f4_;subst f5_))
    refine hK.out _ _ ⟨HS0_,HS1_,HS2_⟩ (fun hHeld => ?_)
    clear hK K
    refine norm_ (a' := ?_) ?_ ?_
    rotate_left
    ·show Act.put _ (some 80) _ = _
     simp only [Act.put,zuA,zuB,zuC,i64_w,i32_w]
     rfl
    refine ZO 10 81 #[Y,Y,Y,Y,Y,Y,Y,Y,Y,Y,Y,X,X,X,X,X] rfl rfl HT_ fun K hK => ?_
    refine goes_ Try.func22 (by kernel_rfl) rfl #[.pointer (some ⟨g,0,none⟩),.slice Ao65 y139.length co65] (by rfl) rfl rfl (by (try simp only [List.map_toArray,List.map_cons,List.map_nil]);first|done|rfl|(simp only [List.length_drop,List.length_take];rfl)) ?_
    with_reducible refine (spec_l1Cur_among.calls g s0_0 t128 t129 _ _ y139 t142 t143 t144 w0 _ ?side1 ?side2 ?side3 ?side4 ?side5 A56.out).mono ?_
    (case side1 => repeat (first|(with_reducible first|exact HI0.out|apply zsA|apply zsB|apply zsC|apply zsD|apply zsE)|exact HI0.out))
    (case side2 => repeat (first|(with_reducible first|exact HB.out|apply zbA|apply zbB|apply zbC|refine below_set ?_ (IsS49.ge HI0.out))|exact HB.out))
    (case side3 => exact ZR (Kd.R_reads' HO141.out).2.2)
    (case side4 => exact (Kd.R_reads' HO141.out).2.1)
    (case side5 => exact far_slice (IsS49.own_ne HI0.out HO141.out (by decide)))
    rintro e w66 ⟨rfl,hi,hb,hk⟩
    have HS0_ := keep_cell hk (hHeld.1) (by first|(rw [add_block];exact Kd.own_blk (IsS49.own_neS HI0.out HO_3.out (by decide)))|(show (Addr.add _ _).block ≠ _;rw [add_block];exact Kd.own_blk (IsS49.own_neS HI0.out HO_3.out (by decide)))|exact Kd.own_blk (IsS49.own_neS HI0.out HO_3.out (by decide)))
    have HS1_ := keep_cell hk (hHeld.2.1) (by first|(rw [add_block];exact Kd.own_blk (IsS49.own_neS HI0.out HO_3.out (by decide)))|(show (Addr.add _ _).block ≠ _;rw [add_block];exact Kd.own_blk (IsS49.own_neS HI0.out HO_3.out (by decide)))|exact Kd.own_blk (IsS49.own_neS HI0.out HO_3.out (by decide)))
    have HS2_ := keep_cell hk (hHeld.2.2) (by first|(rw [add_block];exact Kd.own_blk (IsS49.own_neS HI0.out HO_3.out (by decide)))|(show (Addr.add _ _).block ≠ _;rw [add_block];exact Kd.own_blk (IsS49.own_neS HI0.out HO_3.out (by decide)))|exact Kd.own_blk (IsS49.own_neS HI0.out HO_3.out (by decide)))
    refine ⟨_,rfl,?_⟩
    replace HO_4 := Aside0.mk (Kd.R_mono (Kd.R_keep (IsS49.apart (show IsS49 w0 _ g s0_0 t128 t129 from ZS HI0) (ZK HO_4) (by decide)) hk (fun _ h => h.2)) (fun _ h => h.1))
    replace HL138_1 := Aside0.mk (Kd.R_mono (Kd.R_keep (IsS49.apart (show IsS49 w0 _ g s0_0 t128 t129 from ZS HI0) (ZK HL138_1) (by decide)) hk (fun _ h => h.2)) (fun _ h => h.1))
    replace HX138_1 := Aside0.mk (keep_cell hk HX138_1.out (by first|(rw [add_block];exact Kd.own_blk (IsS49.own_neS HI0.out HO_3.out (by decide)))|(show (Addr.add _ _).block ≠ _;rw [add_block];exact Kd.own_blk (IsS49.own_neS HI0.out HO_3.out (by decide)))|exact Kd.own_blk (IsS49.own_neS HI0.out HO_3.out (by decide))|(dsimp only;exact Kd.own_blk (IsS49.own_neS HI0.out HO_3.out (by decide)))))
    replace HO_3 := Aside0.mk (Kd.S_mono (Kd.S_keep (IsS49.apartS (show IsS49 w0 _ g s0_0 t128 t129 from ZS HI0) (ZKS HO_3) (by decide)) hk (fun _ h => h.2)) (fun _ h => h.1))
    replace HO141 := Aside0.mk (Kd.R_mono (Kd.R_keep (IsS49.apart (show IsS49 w0 _ g s0_0 t128 t129 from ZS HI0) (ZK HO141) (by decide)) hk (fun _ h => h.2)) (fun _ h => h.1))
    replace HK := Aside0.mk (KeepBut.trans (ZW HK) hk (.inl rfl))
    replace HB := Aside0.mk (hb)
    replace HI0 := Aside0.mk (hi)
    have n_ := Aside0.mk (Kd.S_mono (ok' := (fun k_ => some k_ ≠ (.slice Ao65 y139.length co65 : Value).ownBlock)) HO_3.out (fun k_ hk => hk.2))
    clear HO_3
    have HO_3 := n_
    clear n_
    obtain ⟨go67,co67,eo67,gb67,gl67,cl67,HG67⟩ := Kd.S_form HO_3.out (by have h_ : (t124 : Int) < ((x3_1.length : Int) : Int) := ZD;have h2_ : 0 ≤ (t124 : Int) := ZD;omega)
    (first|cases eo67|(injection eo67 with ea_ en_ ec_;(first|subst ea_|(injection ea_ with ea_;subst ea_));subst ec_;clear en_))
    have GB67 := Aside0.mk gb67
    have GG67 := Aside0.mk HG67
    clear gb67 gl67 HG67
    (first|simp only [add_plain] at hx138_0|skip)
    (first|simp only [add_plain] at hx138_1|skip)
    (first|simp only [add_plain] at hx138_2|skip)
    obtain ⟨oki67,ce67,hcl67,hM67,hcc67,_,_,hH67⟩ := Kd.S_elem HO_3.out z43 (t124 : Int) ZD (by have h_ : (t124 : Int) < ((x3_1.length : Int) : Int) := ZD;first|exact h_|(have e_ := (Kd.S_reads' HO_3.out).1;omega)|simpa using h_)
    obtain ⟨ve67_1,rfl,ge67_1⟩ := k43_openM hM67
    have hv67 := hcc67 1 _ rfl
    have hX67 := HX138_1.out
    (try simp only [add_plain] at hX67)
    (try simp only [Nat.add_zero] at hv67)
    replace hv67 := Option.some.inj (hv67.symm.trans hX67)
    subst hv67
    clear hX67 hcc67 hcl67
    have UU67 := Aside0.mk (show Kd.R (Kd.int .i64) 3 _ w.heap.size oki67 (.slice A138_1 ((rd_T43 x3_1 t124).f1).length c138_1) ((rd_T43 x3_1 t124).f1) from ge67_1)
    have HH67 := Aside0.mk hH67
    have HN67 := Aside0.mk (Kd.S_reads' HO_3.out).1
    clear hH67 ge67_1
    refine hK.out _ _ ⟨HS0_,HS1_,HS2_⟩ (fun hHeld => ?_)
    clear hK K
    refine norm_ (a' := ?_) ?_ ?_
    rotate_left
    ·show Act.put _ (some 81) _ = _
     simp only [Act.put,zuA,zuB,zuC,i64_w,i32_w]
     rfl
    refine ZO 11 82 #[Y,Y,Y,Y,Y,Y,Y,Y,Y,Y,Y,Y,X,X,X,X] rfl rfl HT_ fun K hK => ?_
    refine value_ (w1 := ?_) (v := ?_) (by rfl) rfl ?_ ?_
    rotate_left 2
    ·go_simp
     constructor
     ·rfl
     rfl
    refine hK.out _ _ ⟨(World.cell?_alloc_lt _ _ _ (World.block_lt_of_cell? _ _ (hHeld.1))).trans (hHeld.1),(World.cell?_alloc_lt _ _ _ (World.block_lt_of_cell? _ _ (hHeld.2.1))).trans (hHeld.2.1),(World.cell?_alloc_lt _ _ _ (World.block_lt_of_cell? _ _ (hHeld.2.2))).trans (hHeld.2.2)⟩ (fun hHeld => ?_)
    clear hK K
    refine norm_ (a' := ?_) ?_ ?_
    rotate_left
    ·show Act.put _ (some 82) _ = _
     simp only [Act.put,zuA,zuB,zuC,i64_w,i32_w]
     rfl
    refine ZO 12 83 #[Y,Y,Y,Y,Y,Y,Y,Y,Y,Y,Y,Y,Y,X,X,X] rfl rfl HT_ fun K hK => ?_
    refine Kd.R_append_step (Kd.int .i64) w.heap.size (by rfl) (.tmp 77) (.tmp 82) 32 3 (.int .i64 0) 8 rfl Try.underlying32 info3 rfl (by decide) (by omega) (.slice A138_1 ((rd_T43 x3_1 t124).f1).length c138_1) ((rd_T43 x3_1 t124).f1) t142 [.int .i64 t142] (fun k_ => oki67 k_ ∨ ((fun k_ => some k_ ≠ (.slice Ao65 y139.length co65 : Value).ownBlock)) k_ ∧ w66.heap.size ≤ k_) (fun _ => False) rfl rfl ?aP (fun _ hk => hk.elim) ?aF ?aO (Below.refl _ _) ?aS ?aL ?_
    (case aP => exact rfl)
    (case aF => exact (fun k_ hk => .inr ⟨Kd.fresh' (Kd.R_lt (ZK HO141)) k_ hk,hk⟩))
    (case aO => exact (ZK ⟨Kd.R_mono UU67.out (fun _ hk => .inl hk)⟩))
    (case aS => exact (keep_size (w := w) (g := g) (row := none) (ZW HK)))
    (case aL => have := LMc57.out;omega)
    intro v146 w68 ho hb hg hat
    (first|have HS0_ := cell_grown hg (hHeld.1) (by first|(rw [add_block];exact (fun e_ => ((HL138_1.out.1 _ e_.symm).1.2) rfl))|(show some (Addr.add _ _).block ≠ _;rw [add_block];exact (fun e_ => ((HL138_1.out.1 _ e_.symm).1.2) rfl))|exact (fun e_ => ((HL138_1.out.1 _ e_.symm).1.2) rfl))|have HS0_ := cell_grown hg (cell_unalloc (hHeld.1) (by first|(rw [add_block];exact Kd.S_lt HO_3.out _ rfl)|(show (Addr.add _ _).block < _;rw [add_block];exact Kd.S_lt HO_3.out _ rfl)|exact Kd.S_lt HO_3.out _ rfl)) (by first|(rw [add_block];exact (fun e_ => ((HL138_1.out.1 _ e_.symm).1.2) rfl))|(show some (Addr.add _ _).block ≠ _;rw [add_block];exact (fun e_ => ((HL138_1.out.1 _ e_.symm).1.2) rfl))|exact (fun e_ => ((HL138_1.out.1 _ e_.symm).1.2) rfl)))
    (first|have HS1_ := cell_grown hg (hHeld.2.1) (by first|(rw [add_block];exact (fun e_ => ((HL138_1.out.1 _ e_.symm).1.2) rfl))|(show some (Addr.add _ _).block ≠ _;rw [add_block];exact (fun e_ => ((HL138_1.out.1 _ e_.symm).1.2) rfl))|exact (fun e_ => ((HL138_1.out.1 _ e_.symm).1.2) rfl))|have HS1_ := cell_grown hg (cell_unalloc (hHeld.2.1) (by first|(rw [add_block];exact Kd.S_lt HO_3.out _ rfl)|(show (Addr.add _ _).block < _;rw [add_block];exact Kd.S_lt HO_3.out _ rfl)|exact Kd.S_lt HO_3.out _ rfl)) (by first|(rw [add_block];exact (fun e_ => ((HL138_1.out.1 _ e_.symm).1.2) rfl))|(show some (Addr.add _ _).block ≠ _;rw [add_block];exact (fun e_ => ((HL138_1.out.1 _ e_.symm).1.2) rfl))|exact (fun e_ => ((HL138_1.out.1 _ e_.symm).1.2) rfl)))
    (first|have HS2_ := cell_grown hg (hHeld.2.2) (by first|(rw [add_block];exact (fun e_ => ((HL138_1.out.1 _ e_.symm).1.2) rfl))|(show some (Addr.add _ _).block ≠ _;rw [add_block];exact (fun e_ => ((HL138_1.out.1 _ e_.symm).1.2) rfl))|exact (fun e_ => ((HL138_1.out.1 _ e_.symm).1.2) rfl))|have HS2_ := cell_grown hg (cell_unalloc (hHeld.2.2) (by first|(rw [add_block];exact Kd.S_lt HO_3.out _ rfl)|(show (Addr.add _ _).block < _;rw [add_block];exact Kd.S_lt HO_3.out _ rfl)|exact Kd.S_lt HO_3.out _ rfl)) (by first|(rw [add_block];exact (fun e_ => ((HL138_1.out.1 _ e_.symm).1.2) rfl))|(show some (Addr.add _ _).block ≠ _;rw [add_block];exact (fun e_ => ((HL138_1.out.1 _ e_.symm).1.2) rfl))|exact (fun e_ => ((HL138_1.out.1 _ e_.symm).1.2) rfl)))
    rw [← Ny145.out] at ho
    replace HO_4 := Aside0.mk (Kd.R_over' (v := (.slice A138_1 ((rd_T43 x3_1 t124).f1).length c138_1)) (ZK HO_4) (Kd.R_typed HL138_1.out) (by decide) hg)
    replace HO141 := Aside0.mk (Kd.R_grown2 (ZK HO141) rfl hg (fun k_ e_ => (HL138_1.out.1 k_ e_).2))
    replace HB := Aside0.mk (below_weaken (by repeat (first|(with_reducible first|exact HB.out|apply zbA|apply zbB|apply zbC|refine below_set ?_ (IsS49.ge HI0.out))|exact HB.out)) HL.out hb)
    replace HI0 := Aside0.mk (IsS49.grown (ZS HI0) hg (IsS49.own_ne HI0.out HL138_1.out (by decide)))
    replace HK := Aside0.mk (KeepBut.trans (ZW HK) (KeepBut.of_grown hg g) (Kd.R_base2 HL138_1.out))
    replace HH67 := Aside0.mk (Kd.H_grown (Kd.H_widen (by repeat (first|exact HH67.out|refine Kd.H_alloc ?_ _|refine Kd.H_drewN ?_ _|refine Kd.H_drew ?_))) hg (fun k_ e_ => .inl (UU67.out.1 k_ e_)))
    have HO147 := Aside0.mk (ho)
    clear HO_3 UU67 HL138_1
    clear ho hb hg hat
    have p58 : 0 ≤ (t124 : Int) := ZD
    have q58 : (t124 : Int) < ((x3_1.length : Int) : Int) := ZD
    replace p58 := eq_true p58
    replace q58 := eq_true q58
    obtain ⟨Ao71,co71,eo71⟩ := Kd.R_slice HO147.out
    (first|subst eo71|(injection eo71 with f1_ f2_ f3_;have f4_ := f1_.symm;have f5_ := f3_.symm;clear f1_ f2_ f3_;subst f4_;subst f5_))
    obtain ⟨_,_,hraw69,_,_,hcc69,_⟩ := Kd.H_raw HH67.out ZD (by have h_ : (t124 : Int) < ((x3_1.length : Int) : Int) := ZD;first|exact h_|(have e_ := (HN67.out);omega)|simpa using h_)
    obtain ⟨_,hfr69⟩ := Kd.H_at HH67.out ZD (by have h_ : (t124 : Int) < ((x3_1.length : Int) : Int) := ZD;first|exact h_|(have e_ := (HN67.out);omega)|simpa using h_)
    have hx69_0 := hcc69 1 _ rfl
    have hf69_0 := hfr69 1
    (try rw [show (k43).sz = 3 from rfl] at hx69_0)
    (try rw [show (k43).sz = 3 from rfl] at hf69_0)
    have HP69 := Kd.S_seg0 HH67.out ZD (by have h_ : (t124 : Int) < ((x3_1.length : Int) : Int) := ZD;first|exact h_|(have e_ := (HN67.out);omega)|simpa using h_) (seg := [.slice Ao71 y145.length co71]) (j := 1) (show 2 ≤ 3 from by decide) (x' := (⟨(rd_T43 x3_1 t124).f0,y145,(rd_T43 x3_1 t124).f2⟩ : S43)) (k43_mkM _ _ _ (⟨(rd_T43 x3_1 t124).f0,y145,(rd_T43 x3_1 t124).f2⟩ : S43) HO147.out) (fun _ hk => hk)
    clear hcc69 hfr69
    have HN0_go67 := Aside0.mk (show g ≠ go67 from by have h_ := IsS49.own_ne HI0.out hraw69 (by decide);intro e_;exact h_ (by rw [e_];rfl))
    have HS69 := HP69.1
    rw [← Ny148.out] at HS69
    have HQ69 := Aside0.mk HS69
    obtain ⟨_,hgg69⟩ := Kd.R_typed hraw69 go67 rfl
    have GG69_ := Aside0.mk hgg69
    clear HP69 HS69 hgg69
    refine hK.out _ _ ⟨HS0_,HS1_,HS2_⟩ (fun hHeld => ?_)
    clear hK K
    refine norm_ (a' := ?_) ?_ ?_
    rotate_left
    ·show Act.put _ (some 83) _ = _
     simp only [Act.put,zuA,zuB,zuC,i64_w,i32_w]
     rfl
    refine YP 13 84 #[Y,Y,Y,Y,Y,Y,Y,Y,Y,Y,Y,Y,Y,Y,X,X] rfl rfl HT_ ?_
    refine YP 14 85 #[Y,Y,Y,Y,Y,Y,Y,Y,Y,Y,Y,Y,Y,Y,Y,X] rfl rfl HT_ ?_
    refine last_ (i := 15) (N := none) #[Y,Y,Y,Y,Y,Y,Y,Y,Y,Y,Y,Y,Y,Y,Y,Y] rfl rfl (one_of HT_.out (by kernel_rfl)) (by decide) (fun K hK => ?_)
    refine skip_ (w1 := ?_) (by rfl) rfl ?_ ?_
    rotate_left
    ·go_simp
     rfl
    refine hK.out _ _ ?_
    clear hK K
    refine done_ (done_of HT_.out (by kernel_rfl)) ?_
    try go_wp2
    go_ret
    exact ⟨_,by first|rfl|(simp [*,errW_none,errW_some] <;> rfl),by refine Kd.N_mono (Kd.S_N (Kd.S_bound (ok := fun _ => True) ?_)) (fun _ hk => hk.2.1);(with_reducible repeat (first|apply Kd.S_alloc|apply Kd.S_drewN|apply Kd.S_drew));exact Kd.S_mono HQ69.out (fun _ hk => trivial),by repeat (first|(with_reducible first|exact HI0.out|apply zsA|apply zsB|apply zsC|apply zsD|apply zsE|refine IsS49.far ?_ HN0_go67.out _)|exact HI0.out),by repeat (first|(with_reducible first|exact HB.out|apply zbA|apply zbB|apply zbC|refine below_set ?_ (Nat.le_trans HL.out GB67.out)|refine below_set ?_ (IsS49.ge HI0.out))|exact HB.out),ZW HK⟩
   rw [if_neg c53] at H
   have c53b0 : (t127 == 1) = false := beq_eq_false_iff_ne.mpr c53
   have c53b1 : (t127 != 1) = true := bne_iff_ne.mpr c53
   by_cases c72 : t127 = 2
   ·rw [if_pos c72] at H
    have c72b0 : (t127 == 2) = true := beq_iff_eq.mpr c72
    have c72b1 : (t127 != 2) = false := bne_eq_false_iff_eq.mpr c72
    clear c72
    replace H := Option.bind_eq_some_iff.mp H
    obtain ⟨⟨t149,t150,t151⟩,A730,H⟩ := H
    try dsimp only at H
    have A73 := Aside0.mk A730
    clear A730
    by_cases c74 : 0 ≤ t124;rotate_left
    ·rw [if_neg c74] at H
     exact absurd H (by simp)
    rw [if_pos c74] at H
    have c74b0 : decide (0 ≤ t124) = true := decide_eq_true c74
    clear c74
    by_cases c75 : t124 < (x3_1.length : Int);rotate_left
    ·rw [if_neg c75] at H
     exact absurd H (by simp)
    rw [if_pos c75] at H
    have c75b0 : decide (t124 < (x3_1.length : Int)) = true := decide_eq_true c75
    clear c75
    obtain ⟨y152,hy152⟩ : ∃ y_ : List (S43),y_ = (x3_1.set (t124 : Int).toNat (⟨t149,(rd_T43 x3_1 t124).f1,(rd_T43 x3_1 t124).f2⟩ : S43)) := ⟨_,rfl⟩
    replace H : (some (y152,t150,t151)) = some (r1,r2,r3) := by first|(rw [hy152];with_reducible exact H)|(have H2_ := (Option.bind_some _ _).symm.trans H;rw [hy152];with_reducible exact H2_)|(have H2_ := (Option.bind_some _ _).symm.trans H;with_reducible exact H2_)|with_reducible exact H|(rw [hy152];exact H)|exact H
    have Ny152 := Aside0.mk hy152
    clear hy152
    simp only [Option.some.injEq,Prod.mk.injEq] at H
    obtain ⟨rfl,rfl,rfl⟩ := H
    go_wp2_with (first|((with_reducible refine gate_callee (f := 42) rfl ?_);refine goesM_ (some 51) Try.func42 #[.pointer (some ⟨g,0,none⟩),.int .i64 t104] ?_;(with_reducible refine (spec_l1Cur_pick.calls g s0_0 x1001_1 x1002_1 t104 t124 t125 t126 w0 _ ?side1 ?side2 A38.out).mono ?_);(case side1 => repeat (first|(with_reducible first|exact HI0.out|apply zsA|apply zsB|apply zsC|apply zsD|apply zsE)|exact HI0.out));(case side2 => repeat (first|(with_reducible first|exact HB.out|apply zbA|apply zbB|apply zbC|refine below_set ?_ (IsS49.ge HI0.out))|exact HB.out));rintro e w77 ⟨rfl,hi,hb,hk⟩;refine ⟨_,rfl,?_⟩;replace HO_3 := Aside0.mk (Kd.S_mono (Kd.S_keep (IsS49.apartS (show IsS49 w0 _ g s0_0 x1001_1 x1002_1 from ZS HI0) (ZKS HO_3) (by decide)) hk (fun _ h => h.2)) (fun _ h => h.1));replace HO_4 := Aside0.mk (Kd.R_mono (Kd.R_keep (IsS49.apart (show IsS49 w0 _ g s0_0 x1001_1 x1002_1 from ZS HI0) (ZK HO_4) (by decide)) hk (fun _ h => h.2)) (fun _ h => h.1));replace HK := Aside0.mk (KeepBut.trans (ZW HK) hk (.inl rfl));replace HB := Aside0.mk (hb);replace HI0 := Aside0.mk (hi);(try clear hb))|((with_reducible refine gate_callee (f := 42) rfl ?_);refine goesM_ (some 53) Try.func42 #[.pointer (some ⟨g,0,none⟩),.int .i64 16] ?_;(with_reducible refine (spec_l1Cur_pick.calls g s0_0 t125 t126 16 t127 t128 t129 w0 _ ?side1 ?side2 A39.out).mono ?_);(case side1 => repeat (first|(with_reducible first|exact HI0.out|apply zsA|apply zsB|apply zsC|apply zsD|apply zsE)|exact HI0.out));(case side2 => repeat (first|(with_reducible first|exact HB.out|apply zbA|apply zbB|apply zbC|refine below_set ?_ (IsS49.ge HI0.out))|exact HB.out));rintro e w78 ⟨rfl,hi,hb,hk⟩;refine ⟨_,rfl,?_⟩;replace HO_3 := Aside0.mk (Kd.S_mono (Kd.S_keep (IsS49.apartS (show IsS49 w0 _ g s0_0 t125 t126 from ZS HI0) (ZKS HO_3) (by decide)) hk (fun _ h => h.2)) (fun _ h => h.1));replace HO_4 := Aside0.mk (Kd.R_mono (Kd.R_keep (IsS49.apart (show IsS49 w0 _ g s0_0 t125 t126 from ZS HI0) (ZK HO_4) (by decide)) hk (fun _ h => h.2)) (fun _ h => h.1));replace HK := Aside0.mk (KeepBut.trans (ZW HK) hk (.inl rfl));replace HB := Aside0.mk (hb);replace HI0 := Aside0.mk (hi);(try clear hb))|((with_reducible refine gate_callee (f := 47) rfl ?_);refine goesM_ (some 91) Try.func47 #[.pointer (some ⟨g,0,none⟩)] ?_;(with_reducible refine (spec_l1Cur_anyGloss.calls g s0_0 t128 t129 t149 t150 t151 w0 _ ?side1 ?side2 A73.out).mono ?_);(case side1 => repeat (first|(with_reducible first|exact HI0.out|apply zsA|apply zsB|apply zsC|apply zsD|apply zsE)|exact HI0.out));(case side2 => repeat (first|(with_reducible first|exact HB.out|apply zbA|apply zbB|apply zbC|refine below_set ?_ (IsS49.ge HI0.out))|exact HB.out));rintro e w79 ⟨rfl,hi,hb,hk⟩;refine ⟨_,rfl,?_⟩;replace HO_3 := Aside0.mk (Kd.S_mono (Kd.S_keep (IsS49.apartS (show IsS49 w0 _ g s0_0 t128 t129 from ZS HI0) (ZKS HO_3) (by decide)) hk (fun _ h => h.2)) (fun _ h => h.1));replace HO_4 := Aside0.mk (Kd.R_mono (Kd.R_keep (IsS49.apart (show IsS49 w0 _ g s0_0 t128 t129 from ZS HI0) (ZK HO_4) (by decide)) hk (fun _ h => h.2)) (fun _ h => h.1));replace HK := Aside0.mk (KeepBut.trans (ZW HK) hk (.inl rfl));replace HB := Aside0.mk (hb);replace HI0 := Aside0.mk (hi);(try clear hb);have p76 : 0 ≤ (t124 : Int) := ZD;have q76 : (t124 : Int) < ((x3_1.length : Int) : Int) := ZD;obtain ⟨go76,co76,eo76,gb76,gl76,cl76,HG76⟩ := Kd.S_form HO_3.out (by omega);(first|cases eo76|(injection eo76 with ea_ en_ ec_;(first|subst ea_|(injection ea_ with ea_;subst ea_));subst ec_;clear en_));have GB76 := Aside0.mk gb76;have GG76 := Aside0.mk HG76;clear gb76 gl76 HG76;obtain ⟨_,ce76,hcl76,hM76,hcc76,hfr76,_,_⟩ := Kd.S_elem HO_3.out z43 (t124 : Int) p76 q76;obtain ⟨ve76_1,rfl,ge76_1⟩ := k43_openM hM76;have hx76_0 : w79.cell? ⟨go76,(t124 : Int).toNat * 3,none⟩ = some (.string ((rd_T43 x3_1 t124).f0)) := hcc76 0 _ rfl;have hx76_1 : w79.cell? ⟨go76,(t124 : Int).toNat * 3 + 1,none⟩ = some (ve76_1) := hcc76 1 _ rfl;have hx76_2 : w79.cell? ⟨go76,(t124 : Int).toNat * 3 + 2,none⟩ = some (.int .i64 ((rd_T43 x3_1 t124).f2)) := hcc76 2 _ rfl;have hf76_0 : w79.frozen? ⟨go76,(t124 : Int).toNat * 3,none⟩ = false := hfr76 0;have hf76_1 : w79.frozen? ⟨go76,(t124 : Int).toNat * 3 + 1,none⟩ = false := hfr76 1;have hf76_2 : w79.frozen? ⟨go76,(t124 : Int).toNat * 3 + 2,none⟩ = false := hfr76 2;clear hcl76 hcc76 hfr76 ;(try clear hM76);replace p76 := eq_true p76;replace q76 := eq_true q76;have HX80 := Aside0.mk (show Kd.S k43 43 w79 w.heap.size (fun k_ => ((fun _ => True)) k_ ∧ ¬ ((fun _ => False)) k_) (.slice (some ⟨go76,0,none⟩) x3_1.length co76) x3_1 from (ZKS ⟨Kd.S_mono HO_3.out (fun k_ hk => ⟨trivial,fun e_ => e_⟩)⟩));obtain ⟨oki80,ce80,hcl80,hM80,hcc80,hfr80,hoki80,hH80⟩ := Kd.S_elem HX80.out z43 (t124 : Int) ZD (by have h_ : (t124 : Int) < ((x3_1.length : Int) : Int) := ZD;first|exact h_|(have e_ := (Kd.S_reads' HO_3.out).1;omega)|simpa using h_);obtain ⟨ve80_1,rfl,ge80_1⟩ := k43_openM hM80;have HP80 := Kd.S_seg hH80 ZD (by have h_ : (t124 : Int) < ((x3_1.length : Int) : Int) := ZD;first|exact h_|(have e_ := (Kd.S_reads' HO_3.out).1;omega)|simpa using h_) (seg := [.string t149]) (j := 0) (show 1 ≤ 3 from by decide) (x' := (⟨t149,(rd_T43 x3_1 t124).f1,(rd_T43 x3_1 t124).f2⟩ : S43)) (k43_mkM _ _ _ (⟨t149,(rd_T43 x3_1 t124).f1,(rd_T43 x3_1 t124).f2⟩ : S43) (Kd.R_mono ge80_1 (fun _ h_ => Or.inl h_))) (fun _ hk => hk) (fun k_ hk_ => hk_.elim);have hx80_0 := hcc80 0 _ rfl;(try simp only [show (k43).sz = 3 from rfl,Nat.mul_one,Nat.add_zero] at hx80_0);have hf80_0 := hfr80 0;(try simp only [show (k43).sz = 3 from rfl,Nat.mul_one,Nat.add_zero] at hf80_0);clear hcl80 hcc80 hfr80 hM80 hoki80 hH80)|((with_reducible refine gate_store (t := 9) (p := 93) rfl ?_);refine store_event (t := 9) (p := 93) (v := ?vo_w81) (w1 := (w79.setCell ⟨go76,(t124 : Int).toNat * 3,none⟩ (.string t149))) ?hg ?ho ?hn ?hr ?_;(case ho => rfl);(case hg => rfl);(case hn => rfl);(case hr => first|(go_simp;done)|(go_simp;rfl));intro w81 hw;have hg : w79.grownBy w81 (some go76) := (by rw [hw];exact HP80.2);have hp_ : Kd.S k43 43 w81 w.heap.size (fun _ => True) (.slice (some ⟨go76,0,none⟩) x3_1.length co76) y152 := (by rw [hw,Ny152.out];exact HP80.1);clear HP80;replace HO_4 := Aside0.mk (Kd.R_over' (v := (.slice (some ⟨go76,0,none⟩) x3_1.length co76)) (ZK HO_4) (Kd.S_typed HO_3.out) (by decide) hg);replace HI0 := Aside0.mk (IsS49.grown (ZS HI0) hg (IsS49.own_neS HI0.out HO_3.out (by decide)));replace HB := Aside0.mk ((by rw [hw];exact below_set (HB.out) (Nat.le_trans HL.out GB76.out) : Below w0.heap.size w0 w81));replace HK := Aside0.mk (KeepBut.trans (ZW HK) (KeepBut.of_grown hg g) (Kd.S_base2 HO_3.out));replace HO_3 := Aside0.mk (hp_);clear hg hw hp_))
    go_ret
    exact ⟨_,by first|rfl|(simp [*,errW_none,errW_some] <;> rfl),by refine Kd.N_mono (Kd.S_N (Kd.S_bound (ok := fun _ => True) ?_)) (fun _ hk => hk.2.1);(with_reducible repeat (first|apply Kd.S_alloc|apply Kd.S_drewN|apply Kd.S_drew));exact HO_3.out,ZS HI0,by repeat (first|(with_reducible first|exact HB.out|apply zbA|apply zbB|apply zbC|refine below_set ?_ (IsS49.ge HI0.out))|exact HB.out),ZW HK⟩
   rw [if_neg c72] at H
   have c72b0 : (t127 == 2) = false := beq_eq_false_iff_ne.mpr c72
   have c72b1 : (t127 != 2) = true := bne_iff_ne.mpr c72
   by_cases c82 : t127 = 3
   ·rw [if_pos c82] at H
    have c82b0 : (t127 == 3) = true := beq_iff_eq.mpr c82
    have c82b1 : (t127 != 3) = false := bne_eq_false_iff_eq.mpr c82
    clear c82
    obtain ⟨y153,hy153⟩ : ∃ y_ : List Int,y_ = (([(-1),100000] : List Int)) := ⟨_,rfl⟩
    replace H : ((spec_l1Cur_among.f s0_0 t128 t129 y153).bind fun bt156 => (if 0 ≤ t124 then (if t124 < (x3_1.length : Int) then (some ((x3_1.set (t124 : Int).toNat (⟨(rd_T43 x3_1 t124).f0,(rd_T43 x3_1 t124).f1,bt156.1⟩ : S43)),bt156.2.1,bt156.2.2)) else (none)) else (none))) = some (r1,r2,r3) := by first|(rw [hy153];with_reducible exact H)|(have H2_ := (Option.bind_some _ _).symm.trans H;rw [hy153];with_reducible exact H2_)|(have H2_ := (Option.bind_some _ _).symm.trans H;with_reducible exact H2_)|with_reducible exact H|(rw [hy153];exact H)|exact H
    have Ny153 := Aside0.mk hy153
    clear hy153
    replace H := Option.bind_eq_some_iff.mp H
    obtain ⟨⟨t156,t157,t158⟩,A830,H⟩ := H
    try dsimp only at H
    have A83 := Aside0.mk A830
    clear A830
    by_cases c84 : 0 ≤ t124;rotate_left
    ·rw [if_neg c84] at H
     exact absurd H (by simp)
    rw [if_pos c84] at H
    have c84b0 : decide (0 ≤ t124) = true := decide_eq_true c84
    clear c84
    by_cases c85 : t124 < (x3_1.length : Int);rotate_left
    ·rw [if_neg c85] at H
     exact absurd H (by simp)
    rw [if_pos c85] at H
    have c85b0 : decide (t124 < (x3_1.length : Int)) = true := decide_eq_true c85
    clear c85
    obtain ⟨y159,hy159⟩ : ∃ y_ : List (S43),y_ = (x3_1.set (t124 : Int).toNat (⟨(rd_T43 x3_1 t124).f0,(rd_T43 x3_1 t124).f1,t156⟩ : S43)) := ⟨_,rfl⟩
    replace H : (some (y159,t157,t158)) = some (r1,r2,r3) := by first|(rw [hy159];with_reducible exact H)|(have H2_ := (Option.bind_some _ _).symm.trans H;rw [hy159];with_reducible exact H2_)|(have H2_ := (Option.bind_some _ _).symm.trans H;with_reducible exact H2_)|with_reducible exact H|(rw [hy159];exact H)|exact H
    have Ny159 := Aside0.mk hy159
    clear hy159
    simp only [Option.some.injEq,Prod.mk.injEq] at H
    obtain ⟨rfl,rfl,rfl⟩ := H
    go_wp2_with (first|((with_reducible refine gate_callee (f := 42) rfl ?_);refine goesM_ (some 51) Try.func42 #[.pointer (some ⟨g,0,none⟩),.int .i64 t104] ?_;(with_reducible refine (spec_l1Cur_pick.calls g s0_0 x1001_1 x1002_1 t104 t124 t125 t126 w0 _ ?side1 ?side2 A38.out).mono ?_);(case side1 => repeat (first|(with_reducible first|exact HI0.out|apply zsA|apply zsB|apply zsC|apply zsD|apply zsE)|exact HI0.out));(case side2 => repeat (first|(with_reducible first|exact HB.out|apply zbA|apply zbB|apply zbC|refine below_set ?_ (IsS49.ge HI0.out))|exact HB.out));rintro e w87 ⟨rfl,hi,hb,hk⟩;refine ⟨_,rfl,?_⟩;replace HO_3 := Aside0.mk (Kd.S_mono (Kd.S_keep (IsS49.apartS (show IsS49 w0 _ g s0_0 x1001_1 x1002_1 from ZS HI0) (ZKS HO_3) (by decide)) hk (fun _ h => h.2)) (fun _ h => h.1));replace HO_4 := Aside0.mk (Kd.R_mono (Kd.R_keep (IsS49.apart (show IsS49 w0 _ g s0_0 x1001_1 x1002_1 from ZS HI0) (ZK HO_4) (by decide)) hk (fun _ h => h.2)) (fun _ h => h.1));replace HK := Aside0.mk (KeepBut.trans (ZW HK) hk (.inl rfl));replace HB := Aside0.mk (hb);replace HI0 := Aside0.mk (hi);(try clear hb))|((with_reducible refine gate_callee (f := 42) rfl ?_);refine goesM_ (some 53) Try.func42 #[.pointer (some ⟨g,0,none⟩),.int .i64 16] ?_;(with_reducible refine (spec_l1Cur_pick.calls g s0_0 t125 t126 16 t127 t128 t129 w0 _ ?side1 ?side2 A39.out).mono ?_);(case side1 => repeat (first|(with_reducible first|exact HI0.out|apply zsA|apply zsB|apply zsC|apply zsD|apply zsE)|exact HI0.out));(case side2 => repeat (first|(with_reducible first|exact HB.out|apply zbA|apply zbB|apply zbC|refine below_set ?_ (IsS49.ge HI0.out))|exact HB.out));rintro e w88 ⟨rfl,hi,hb,hk⟩;refine ⟨_,rfl,?_⟩;replace HO_3 := Aside0.mk (Kd.S_mono (Kd.S_keep (IsS49.apartS (show IsS49 w0 _ g s0_0 t125 t126 from ZS HI0) (ZKS HO_3) (by decide)) hk (fun _ h => h.2)) (fun _ h => h.1));replace HO_4 := Aside0.mk (Kd.R_mono (Kd.R_keep (IsS49.apart (show IsS49 w0 _ g s0_0 t125 t126 from ZS HI0) (ZK HO_4) (by decide)) hk (fun _ h => h.2)) (fun _ h => h.1));replace HK := Aside0.mk (KeepBut.trans (ZW HK) hk (.inl rfl));replace HB := Aside0.mk (hb);replace HI0 := Aside0.mk (hi);(try clear hb))|((with_reducible refine gate_dst (N := 99) rfl ?_);refine Kd.R_lit (Kd.int .i64) _ 3 ?hg (N := 99) ?hd (xs := ([(-1),100000] : List Int)) (inner := [.int .i64 (-1),.int .i64 100000]) (ok := fun _ => True) (okp := fun _ => True) ?hr ?hp (fun _ hk => hk) trivial (Below.refl _ _) (Nat.le_refl _) (by simp) ?_;(case hd => rfl);(case hg => rfl);(case hr => first|(go_simp;done)|(go_simp;rfl));(case hp => exact (Reps.one (show Kd.M (Kd.int .i64) _ _ _ (-1) [.int .i64 (-1)] from rfl) (Reps.one (show Kd.M (Kd.int .i64) _ _ _ 100000 [.int .i64 100000] from rfl) (Reps.none _ _))));intro v154 w89 ho90 hb hg_ hnew_;clear hg_ hnew_;(first|rw [← Ny153.out] at ho90|(simp only [Int.reduceToNat] at ho90;rw [← Ny153.out] at ho90));replace HO_3 := Aside0.mk (Kd.S_elder' (ZKS HO_3) (Kd.R_base ho90) hb);replace HO_4 := ZBR HO_4 hb;have HO155 := Aside0.mk (Kd.R_lower ho90 (keep_size (w := w) (g := g) (row := none) (ZW HK)));replace HK := Aside0.mk (KeepBut.trans (ZW HK) (KeepBut.of_below hb g none) (.inl rfl));replace HB := Aside0.mk (below_step (by repeat (first|(with_reducible first|exact HB.out|apply zbA|apply zbB|apply zbC|refine below_set ?_ (IsS49.ge HI0.out))|exact HB.out)) hb);replace HI0 := Aside0.mk (IsS49.below (ZS HI0) hb);clear hb ho90;obtain ⟨Ao91,co91,eo91⟩ := Kd.R_slice HO155.out;subst eo91)|((with_reducible refine gate_callee (f := 22) rfl ?_);refine goesM_ (some 100) Try.func22 #[.pointer (some ⟨g,0,none⟩),.slice Ao91 y153.length co91] ?_;(with_reducible refine (spec_l1Cur_among.calls g s0_0 t128 t129 _ _ y153 t156 t157 t158 w0 _ ?side1 ?side2 ?side3 ?side4 ?side5 A83.out).mono ?_);(case side1 => repeat (first|(with_reducible first|exact HI0.out|apply zsA|apply zsB|apply zsC|apply zsD|apply zsE)|exact HI0.out));(case side2 => repeat (first|(with_reducible first|exact HB.out|apply zbA|apply zbB|apply zbC|refine below_set ?_ (IsS49.ge HI0.out))|exact HB.out));(case side3 => exact ZR (Kd.R_reads' HO155.out).2.2);(case side4 => exact (Kd.R_reads' HO155.out).2.1);(case side5 => exact far_slice (IsS49.own_ne HI0.out HO155.out (by decide)));rintro e w92 ⟨rfl,hi,hb,hk⟩;refine ⟨_,rfl,?_⟩;replace HO_3 := Aside0.mk (Kd.S_mono (Kd.S_keep (IsS49.apartS (show IsS49 w0 _ g s0_0 t128 t129 from ZS HI0) (ZKS HO_3) (by decide)) hk (fun _ h => h.2)) (fun _ h => h.1));replace HO_4 := Aside0.mk (Kd.R_mono (Kd.R_keep (IsS49.apart (show IsS49 w0 _ g s0_0 t128 t129 from ZS HI0) (ZK HO_4) (by decide)) hk (fun _ h => h.2)) (fun _ h => h.1));replace HO155 := Aside0.mk (Kd.R_mono (Kd.R_keep (IsS49.apart (show IsS49 w0 _ g s0_0 t128 t129 from ZS HI0) (ZK HO155) (by decide)) hk (fun _ h => h.2)) (fun _ h => h.1));replace HK := Aside0.mk (KeepBut.trans (ZW HK) hk (.inl rfl));replace HB := Aside0.mk (hb);replace HI0 := Aside0.mk (hi);(try clear hb);have p86 : 0 ≤ (t124 : Int) := ZD;have q86 : (t124 : Int) < ((x3_1.length : Int) : Int) := ZD;obtain ⟨go86,co86,eo86,gb86,gl86,cl86,HG86⟩ := Kd.S_form HO_3.out (by omega);(first|cases eo86|(injection eo86 with ea_ en_ ec_;(first|subst ea_|(injection ea_ with ea_;subst ea_));subst ec_;clear en_));have GB86 := Aside0.mk gb86;have GG86 := Aside0.mk HG86;clear gb86 gl86 HG86;obtain ⟨_,ce86,hcl86,hM86,hcc86,hfr86,_,_⟩ := Kd.S_elem HO_3.out z43 (t124 : Int) p86 q86;obtain ⟨ve86_1,rfl,ge86_1⟩ := k43_openM hM86;have hx86_0 : w92.cell? ⟨go86,(t124 : Int).toNat * 3,none⟩ = some (.string ((rd_T43 x3_1 t124).f0)) := hcc86 0 _ rfl;have hx86_1 : w92.cell? ⟨go86,(t124 : Int).toNat * 3 + 1,none⟩ = some (ve86_1) := hcc86 1 _ rfl;have hx86_2 : w92.cell? ⟨go86,(t124 : Int).toNat * 3 + 2,none⟩ = some (.int .i64 ((rd_T43 x3_1 t124).f2)) := hcc86 2 _ rfl;have hf86_0 : w92.frozen? ⟨go86,(t124 : Int).toNat * 3,none⟩ = false := hfr86 0;have hf86_1 : w92.frozen? ⟨go86,(t124 : Int).toNat * 3 + 1,none⟩ = false := hfr86 1;have hf86_2 : w92.frozen? ⟨go86,(t124 : Int).toNat * 3 + 2,none⟩ = false := hfr86 2;clear hcl86 hcc86 hfr86 ;(try clear hM86);replace p86 := eq_true p86;replace q86 := eq_true q86;have n_ := Aside0.mk (Kd.S_mono (ok' := (fun k_ => some k_ ≠ (.slice Ao91 y153.length co91 : Value).ownBlock)) HO_3.out (fun k_ hk => hk.2));clear HO_3;have HO_3 := n_;clear n_;have HX93 := Aside0.mk (show Kd.S k43 43 w92 w.heap.size (fun k_ => ((fun k_ => some k_ ≠ (.slice Ao91 y153.length co91 : Value).ownBlock)) k_ ∧ ¬ ((fun _ => False)) k_) (.slice (some ⟨go86,0,none⟩) x3_1.length co86) x3_1 from (ZKS ⟨Kd.S_mono HO_3.out (fun k_ hk => ⟨hk,fun e_ => e_⟩)⟩));obtain ⟨oki93,ce93,hcl93,hM93,hcc93,hfr93,hoki93,hH93⟩ := Kd.S_elem HX93.out z43 (t124 : Int) ZD (by have h_ : (t124 : Int) < ((x3_1.length : Int) : Int) := ZD;first|exact h_|(have e_ := (Kd.S_reads' HO_3.out).1;omega)|simpa using h_);obtain ⟨ve93_1,rfl,ge93_1⟩ := k43_openM hM93;have HP93 := Kd.S_seg hH93 ZD (by have h_ : (t124 : Int) < ((x3_1.length : Int) : Int) := ZD;first|exact h_|(have e_ := (Kd.S_reads' HO_3.out).1;omega)|simpa using h_) (seg := [.int .i64 t156]) (j := 2) (show 3 ≤ 3 from by decide) (x' := (⟨(rd_T43 x3_1 t124).f0,(rd_T43 x3_1 t124).f1,t156⟩ : S43)) (k43_mkM _ _ _ (⟨(rd_T43 x3_1 t124).f0,(rd_T43 x3_1 t124).f1,t156⟩ : S43) (Kd.R_mono ge93_1 (fun _ h_ => Or.inl h_))) (fun _ hk => hk) (fun k_ hk_ => hk_.elim);have hx93_2 := hcc93 2 _ rfl;(try simp only [show (k43).sz = 3 from rfl,Nat.mul_one,Nat.add_zero] at hx93_2);have hf93_2 := hfr93 2;(try simp only [show (k43).sz = 3 from rfl,Nat.mul_one,Nat.add_zero] at hf93_2);clear hcl93 hcc93 hfr93 hM93 hoki93 hH93)|((with_reducible refine gate_store (t := 3) (p := 102) rfl ?_);refine store_event (t := 3) (p := 102) (v := ?vo_w94) (w1 := (w92.setCell ⟨go86,(t124 : Int).toNat * 3 + 2,none⟩ (.int .i64 t156))) ?hg ?ho ?hn ?hr ?_;(case ho => rfl);(case hg => rfl);(case hn => rfl);(case hr => first|(go_simp;done)|(go_simp;rfl));intro w94 hw;have hg : w92.grownBy w94 (some go86) := (by rw [hw];exact HP93.2);have hp_ : Kd.S k43 43 w94 w.heap.size (fun k_ => some k_ ≠ (.slice Ao91 y153.length co91 : Value).ownBlock) (.slice (some ⟨go86,0,none⟩) x3_1.length co86) y159 := (by rw [hw,Ny159.out];exact HP93.1);clear HP93;replace HO_4 := Aside0.mk (Kd.R_over' (v := (.slice (some ⟨go86,0,none⟩) x3_1.length co86)) (ZK HO_4) (Kd.S_typed HO_3.out) (by decide) hg);replace HI0 := Aside0.mk (IsS49.grown (ZS HI0) hg (IsS49.own_neS HI0.out HO_3.out (by decide)));replace HO155 := Aside0.mk (Kd.R_over' (v := (.slice (some ⟨go86,0,none⟩) x3_1.length co86)) (ZK HO155) (Kd.S_typed HO_3.out) (by decide) hg);replace HB := Aside0.mk ((by rw [hw];exact below_set (HB.out) (Nat.le_trans HL.out GB86.out) : Below w0.heap.size w0 w94));replace HK := Aside0.mk (KeepBut.trans (ZW HK) (KeepBut.of_grown hg g) (Kd.S_base2 HO_3.out));replace HO_3 := Aside0.mk (hp_);clear hg hw hp_))
    go_ret
    exact ⟨_,by first|rfl|(simp [*,errW_none,errW_some] <;> rfl),by refine Kd.N_mono (Kd.S_N (Kd.S_bound (ok := fun _ => True) ?_)) (fun _ hk => hk.2.1);(with_reducible repeat (first|apply Kd.S_alloc|apply Kd.S_drewN|apply Kd.S_drew));exact Kd.S_mono HO_3.out (fun _ hk => trivial),ZS HI0,by repeat (first|(with_reducible first|exact HB.out|apply zbA|apply zbB|apply zbC|refine below_set ?_ (IsS49.ge HI0.out))|exact HB.out),ZW HK⟩
   rw [if_neg c82] at H
   have c82b0 : (t127 == 3) = false := beq_eq_false_iff_ne.mpr c82
   have c82b1 : (t127 != 3) = true := bne_iff_ne.mpr c82
   by_cases c95 : t127 = 4;rotate_left
   ·rw [if_neg c95] at H
    have c95b0 : (t127 == 4) = false := beq_eq_false_iff_ne.mpr c95
    have c95b1 : (t127 != 4) = true := bne_iff_ne.mpr c95
    simp only [Option.some.injEq,Prod.mk.injEq] at H
    obtain ⟨rfl,rfl,rfl⟩ := H
    go_wp2_with (first|((with_reducible refine gate_callee (f := 42) rfl ?_);refine goesM_ (some 51) Try.func42 #[.pointer (some ⟨g,0,none⟩),.int .i64 t104] ?_;(with_reducible refine (spec_l1Cur_pick.calls g s0_0 x1001_1 x1002_1 t104 t124 t125 t126 w0 _ ?side1 ?side2 A38.out).mono ?_);(case side1 => repeat (first|(with_reducible first|exact HI0.out|apply zsA|apply zsB|apply zsC|apply zsD|apply zsE)|exact HI0.out));(case side2 => repeat (first|(with_reducible first|exact HB.out|apply zbA|apply zbB|apply zbC|refine below_set ?_ (IsS49.ge HI0.out))|exact HB.out));rintro e w109 ⟨rfl,hi,hb,hk⟩;refine ⟨_,rfl,?_⟩;replace HO_3 := Aside0.mk (Kd.S_mono (Kd.S_keep (IsS49.apartS (show IsS49 w0 _ g s0_0 x1001_1 x1002_1 from ZS HI0) (ZKS HO_3) (by decide)) hk (fun _ h => h.2)) (fun _ h => h.1));replace HO_4 := Aside0.mk (Kd.R_mono (Kd.R_keep (IsS49.apart (show IsS49 w0 _ g s0_0 x1001_1 x1002_1 from ZS HI0) (ZK HO_4) (by decide)) hk (fun _ h => h.2)) (fun _ h => h.1));replace HK := Aside0.mk (KeepBut.trans (ZW HK) hk (.inl rfl));replace HB := Aside0.mk (hb);replace HI0 := Aside0.mk (hi);(try clear hb))|((with_reducible refine gate_callee (f := 42) rfl ?_);refine goesM_ (some 53) Try.func42 #[.pointer (some ⟨g,0,none⟩),.int .i64 16] ?_;(with_reducible refine (spec_l1Cur_pick.calls g s0_0 t125 t126 16 t127 t128 t129 w0 _ ?side1 ?side2 A39.out).mono ?_);(case side1 => repeat (first|(with_reducible first|exact HI0.out|apply zsA|apply zsB|apply zsC|apply zsD|apply zsE)|exact HI0.out));(case side2 => repeat (first|(with_reducible first|exact HB.out|apply zbA|apply zbB|apply zbC|refine below_set ?_ (IsS49.ge HI0.out))|exact HB.out));rintro e w110 ⟨rfl,hi,hb,hk⟩;refine ⟨_,rfl,?_⟩;replace HO_3 := Aside0.mk (Kd.S_mono (Kd.S_keep (IsS49.apartS (show IsS49 w0 _ g s0_0 t125 t126 from ZS HI0) (ZKS HO_3) (by decide)) hk (fun _ h => h.2)) (fun _ h => h.1));replace HO_4 := Aside0.mk (Kd.R_mono (Kd.R_keep (IsS49.apart (show IsS49 w0 _ g s0_0 t125 t126 from ZS HI0) (ZK HO_4) (by decide)) hk (fun _ h => h.2)) (fun _ h => h.1));replace HK := Aside0.mk (KeepBut.trans (ZW HK) hk (.inl rfl));replace HB := Aside0.mk (hb);replace HI0 := Aside0.mk (hi);(try clear hb)))
    go_ret
    exact ⟨_,by first|rfl|(simp [*,errW_none,errW_some] <;> rfl),by refine Kd.N_mono (Kd.S_N (Kd.S_bound (ok := fun _ => True) ?_)) (fun _ hk => hk.2.1);(with_reducible repeat (first|apply Kd.S_alloc|apply Kd.S_drewN|apply Kd.S_drew));exact HO_3.out,ZS HI0,by repeat (first|(with_reducible first|exact HB.out|apply zbA|apply zbB|apply zbC|refine below_set ?_ (IsS49.ge HI0.out))|exact HB.out),ZW HK⟩
   rw [if_pos c95] at H
   have c95b0 : (t127 == 4) = true := beq_iff_eq.mpr c95
   have c95b1 : (t127 != 4) = false := bne_eq_false_iff_eq.mpr c95
   clear c95
   replace H := Option.bind_eq_some_iff.mp H
   obtain ⟨⟨t160,t161,t162⟩,A960,H⟩ := H
   try dsimp only at H
   have A96 := Aside0.mk A960
   clear A960
   have H' := Aside0.mk H
   clear H
   go_wp2_with (first|((with_reducible refine gate_callee (f := 42) rfl ?_);refine goesM_ (some 51) Try.func42 #[.pointer (some ⟨g,0,none⟩),.int .i64 t104] ?_;(with_reducible refine (spec_l1Cur_pick.calls g s0_0 x1001_1 x1002_1 t104 t124 t125 t126 w0 _ ?side1 ?side2 A38.out).mono ?_);(case side1 => repeat (first|(with_reducible first|exact HI0.out|apply zsA|apply zsB|apply zsC|apply zsD|apply zsE)|exact HI0.out));(case side2 => repeat (first|(with_reducible first|exact HB.out|apply zbA|apply zbB|apply zbC|refine below_set ?_ (IsS49.ge HI0.out))|exact HB.out));rintro e w97 ⟨rfl,hi,hb,hk⟩;refine ⟨_,rfl,?_⟩;replace HO_3 := Aside0.mk (Kd.S_mono (Kd.S_keep (IsS49.apartS (show IsS49 w0 _ g s0_0 x1001_1 x1002_1 from ZS HI0) (ZKS HO_3) (by decide)) hk (fun _ h => h.2)) (fun _ h => h.1));replace HO_4 := Aside0.mk (Kd.R_mono (Kd.R_keep (IsS49.apart (show IsS49 w0 _ g s0_0 x1001_1 x1002_1 from ZS HI0) (ZK HO_4) (by decide)) hk (fun _ h => h.2)) (fun _ h => h.1));replace HK := Aside0.mk (KeepBut.trans (ZW HK) hk (.inl rfl));replace HB := Aside0.mk (hb);replace HI0 := Aside0.mk (hi);(try clear hb))|((with_reducible refine gate_callee (f := 42) rfl ?_);refine goesM_ (some 53) Try.func42 #[.pointer (some ⟨g,0,none⟩),.int .i64 16] ?_;(with_reducible refine (spec_l1Cur_pick.calls g s0_0 t125 t126 16 t127 t128 t129 w0 _ ?side1 ?side2 A39.out).mono ?_);(case side1 => repeat (first|(with_reducible first|exact HI0.out|apply zsA|apply zsB|apply zsC|apply zsD|apply zsE)|exact HI0.out));(case side2 => repeat (first|(with_reducible first|exact HB.out|apply zbA|apply zbB|apply zbC|refine below_set ?_ (IsS49.ge HI0.out))|exact HB.out));rintro e w98 ⟨rfl,hi,hb,hk⟩;refine ⟨_,rfl,?_⟩;replace HO_3 := Aside0.mk (Kd.S_mono (Kd.S_keep (IsS49.apartS (show IsS49 w0 _ g s0_0 t125 t126 from ZS HI0) (ZKS HO_3) (by decide)) hk (fun _ h => h.2)) (fun _ h => h.1));replace HO_4 := Aside0.mk (Kd.R_mono (Kd.R_keep (IsS49.apart (show IsS49 w0 _ g s0_0 t125 t126 from ZS HI0) (ZK HO_4) (by decide)) hk (fun _ h => h.2)) (fun _ h => h.1));replace HK := Aside0.mk (KeepBut.trans (ZW HK) hk (.inl rfl));replace HB := Aside0.mk (hb);replace HI0 := Aside0.mk (hi);(try clear hb))|((with_reducible refine gate_callee (f := 42) rfl ?_);refine goesM_ (some 106) Try.func42 #[.pointer (some ⟨g,0,none⟩),.int .i64 2] ?_;(with_reducible refine (spec_l1Cur_pick.calls g s0_0 t128 t129 2 t160 t161 t162 w0 _ ?side1 ?side2 A96.out).mono ?_);(case side1 => repeat (first|(with_reducible first|exact HI0.out|apply zsA|apply zsB|apply zsC|apply zsD|apply zsE)|exact HI0.out));(case side2 => repeat (first|(with_reducible first|exact HB.out|apply zbA|apply zbB|apply zbC|refine below_set ?_ (IsS49.ge HI0.out))|exact HB.out));rintro e w99 ⟨rfl,hi,hb,hk⟩;refine ⟨_,rfl,?_⟩;replace HO_3 := Aside0.mk (Kd.S_mono (Kd.S_keep (IsS49.apartS (show IsS49 w0 _ g s0_0 t128 t129 from ZS HI0) (ZKS HO_3) (by decide)) hk (fun _ h => h.2)) (fun _ h => h.1));replace HO_4 := Aside0.mk (Kd.R_mono (Kd.R_keep (IsS49.apart (show IsS49 w0 _ g s0_0 t128 t129 from ZS HI0) (ZK HO_4) (by decide)) hk (fun _ h => h.2)) (fun _ h => h.1));replace HK := Aside0.mk (KeepBut.trans (ZW HK) hk (.inl rfl));replace HB := Aside0.mk (hb);replace HI0 := Aside0.mk (hi);(try clear hb)))
   go_loopg [3] k1 (fun kq v3 w' => ∃ (x3_2 : List (S43)),Aside0 (spec_l1Cur_words.l2 kq x3_2 (wrap64 (16 + t160)) s0_0 t161 t162 = some (r1,r2,r3)) ∧ Aside0 (kq ≤ k1) ∧ Aside0 (Kd.S k43 43 w' w.heap.size (fun _ => True) v3 x3_2) ∧ Aside0 (IsS49 w0 w' g s0_0 t161 t162) ∧ Aside0 (KeepBut w w' g none) ∧ Aside0 (Below w0.heap.size w0 w'))
   case atStart => exact ⟨(([] : List (S43))),H',⟨Nat.le_refl _⟩,⟨by first|exact Kd.S_nil _ _ _ _ _|exact Kd.N_nil _ _ _ _ _|exact Kd.V_nil _ _ _ _ _|exact Kd.Q_nil _ _ _ _ _|exact Kd.R_nil _ _ _ _ _⟩,⟨ZS HI0⟩,⟨ZW HK⟩,⟨by repeat (first|(with_reducible first|exact HB.out|apply zbA|apply zbB|apply zbC|refine below_set ?_ (IsS49.ge HI0.out))|exact HB.out)⟩⟩
   case round =>
    clear H'
    obtain ⟨x3_2,HA,HK2,HO_3,HI0,HK,HB⟩ := hrel
    cases gk with
    | zero => exact absurd HA.out (by simp [spec_l1Cur_words.l2])
    | succ k2 =>
     have H := HA.out
     clear HA
     simp only [spec_l1Cur_words.l2] at H
     by_cases c100 : (x3_2.length : Int) < (wrap64 (16 + t160));rotate_left
     ·rw [if_neg c100] at H
      have c100b0 : decide ((x3_2.length : Int) < (wrap64 (16 + t160))) = false := decide_eq_false c100
      clear c100
      simp only [Option.some.injEq,Prod.mk.injEq] at H
      obtain ⟨rfl,rfl,rfl⟩ := H
      obtain ⟨Ao108,co108,eo108⟩ := Kd.S_slice HO_3.out
      subst eo108
      go_wp2
      go_ret
      exact ⟨_,by first|rfl|(simp [*,errW_none,errW_some] <;> rfl),by refine Kd.N_mono (Kd.S_N (Kd.S_bound (ok := fun _ => True) ?_)) (fun _ hk => hk.2.1);(with_reducible repeat (first|apply Kd.S_alloc|apply Kd.S_drewN|apply Kd.S_drew));exact HO_3.out,ZS HI0,by repeat (first|(with_reducible first|exact HB.out|apply zbA|apply zbB|apply zbC|refine below_set ?_ (IsS49.ge HI0.out))|exact HB.out),ZW HK⟩
     rw [if_pos c100] at H
     have c100b0 : decide ((x3_2.length : Int) < (wrap64 (16 + t160))) = true := decide_eq_true c100
     clear c100
     by_cases c101 : 0 ≤ (x3_2.length : Int);rotate_left
     ·rw [if_neg c101] at H
      exact absurd H (by simp)
     rw [if_pos c101] at H
     have c101b0 := eq_true c101
     have c101b1 : decide (0 ≤ (x3_2.length : Int)) = true := decide_eq_true c101
     clear c101
     by_cases c102 : (x3_2.length : Int) ≤ (wrap64 ((x3_2.length : Int) + 1));rotate_left
     ·rw [if_neg c102] at H
      exact absurd H (by simp)
     rw [if_pos c102] at H
     have c102b0 := eq_true c102
     have c102b1 : decide ((x3_2.length : Int) ≤ (wrap64 ((x3_2.length : Int) + 1))) = true := decide_eq_true c102
     by_cases c103 : (wrap64 ((x3_2.length : Int) + 1)) ≤ 17;rotate_left
     ·rw [if_neg c103] at H
      exact absurd H (by simp)
     rw [if_pos c103] at H
     have c103b0 := eq_true c103
     have c103b1 : decide ((wrap64 ((x3_2.length : Int) + 1)) ≤ 17) = true := decide_eq_true c103
     by_cases c104 : 1 + ((⟨#[65,66,67,68,69,70,71,72,73,74,75,76,77,78,79,80,81]⟩ : ByteArray).extract x3_2.length (x3_2.length + 1)).size ≤ 9223372036854775807;rotate_left
     ·rw [if_neg c104] at H
      exact absurd H (by simp)
     rw [if_pos c104] at H
     have c104b0 := eq_true c104
     have c104b1 : decide (1 + ((⟨#[65,66,67,68,69,70,71,72,73,74,75,76,77,78,79,80,81]⟩ : ByteArray).extract x3_2.length (x3_2.length + 1)).size ≤ 9223372036854775807) = true := decide_eq_true c104
     try have c104b2 : (9223372036854775807 < 1 + ((⟨#[65,66,67,68,69,70,71,72,73,74,75,76,77,78,79,80,81]⟩ : ByteArray).extract x3_2.length (x3_2.length + 1)).size) = False := eq_false (Nat.not_lt.2 c104)
     by_cases c105 : x3_2.length < 2932031007402;rotate_left
     ·rw [if_neg c105] at H
      exact absurd H (by simp)
     rw [if_pos c105] at H
     have LMc105 := Aside0.mk c105
     have hs0_ : (0 ≤ (x3_2.length : Int) + 1 ∧ (x3_2.length : Int) + 1 ≤ 17) = True := eq_true (by have h1_ := LMc105.out;have h2_ := of_decide_eq_true c103b1;unfold wrap64 at h2_;omega)
     have hs1_ : (0 ≤ (x3_2.length : Int) ∧ (x3_2.length : Int) ≤ (x3_2.length : Int) + 1) = True := eq_true (by omega)
     clear c105
     obtain ⟨y163,hy163⟩ : ∃ y_ : List (S43),y_ = (x3_2 ++ [(⟨(⟨#[88]⟩ : ByteArray) ++ ((⟨#[65,66,67,68,69,70,71,72,73,74,75,76,77,78,79,80,81]⟩ : ByteArray).extract x3_2.length (x3_2.length + 1)),([] : List Int),5⟩ : S43)]) := ⟨_,rfl⟩
     replace H : (spec_l1Cur_words.l2 k2 y163 (wrap64 (16 + t160)) s0_0 t161 t162) = some (r1,r2,r3) := by first|(rw [hy163];with_reducible exact H)|(have H2_ := (Option.bind_some _ _).symm.trans H;rw [hy163];with_reducible exact H2_)|(have H2_ := (Option.bind_some _ _).symm.trans H;with_reducible exact H2_)|with_reducible exact H|(rw [hy163];exact H)|exact H
     have Ny163 := Aside0.mk hy163
     clear hy163
     have H' := Aside0.mk H
     clear H
     obtain ⟨Ao106,co106,eo106⟩ := Kd.S_slice HO_3.out
     subst eo106
     go_wp2_with (first|((with_reducible refine gate_builtin (b := .append) (xs := #[.tmp 112,.tmp 121]) rfl ?_);at_builtin;refine Kd.S_append k43 w.heap.size rfl (.tmp 112) (.tmp 121) 24 43 (.agg #[(.string ⟨#[]⟩),(.slice none 0 0),(.int .i64 0)]) 48 rfl Try.underlying24 info43 rfl (by decide) (by omega) (.slice Ao106 x3_2.length co106) x3_2 (⟨(⟨#[88]⟩ : ByteArray) ++ ((⟨#[65,66,67,68,69,70,71,72,73,74,75,76,77,78,79,80,81]⟩ : ByteArray).extract x3_2.length (x3_2.length + 1)),([] : List Int),5⟩ : S43) [.string ((⟨#[88]⟩ : ByteArray) ++ ((⟨#[65,66,67,68,69,70,71,72,73,74,75,76,77,78,79,80,81]⟩ : ByteArray).extract x3_2.length (x3_2.length + 1))),.slice none 0 0,.int .i64 5] (fun _ => True) (fun _ => False) rfl rfl ?aP (fun k_ hk_ => hk_.elim) ?aF ?aO (Below.refl _ _) ?aS ?aL ?_;(case aP => exact k43_mkM _ _ _ (⟨(⟨#[88]⟩ : ByteArray) ++ ((⟨#[65,66,67,68,69,70,71,72,73,74,75,76,77,78,79,80,81]⟩ : ByteArray).extract x3_2.length (x3_2.length + 1)),([] : List Int),5⟩ : S43) (Kd.R_nil _ _ _ _ _));(case aF => exact (fun _ _ => trivial));(case aO => exact (ZKS ⟨Kd.S_mono HO_3.out (fun k_ hk => ⟨trivial,fun e_ => e_⟩)⟩));(case aS => exact (keep_size (w := w) (g := g) (row := none) (ZW HK)));(case aL => have := LMc105.out;omega);intro v164 w107 ho hb hg hat;rw [← Ny163.out] at ho;replace HB := Aside0.mk (below_weaken (by repeat (first|(with_reducible first|exact HB.out|apply zbA|apply zbB|apply zbC|refine below_set ?_ (IsS49.ge HI0.out))|exact HB.out)) HL.out hb);replace HI0 := Aside0.mk (IsS49.grown (ZS HI0) hg (IsS49.own_neS HI0.out HO_3.out (by decide)));replace HK := Aside0.mk (KeepBut.trans (ZW HK) (KeepBut.of_grown hg g) (Kd.S_base2 HO_3.out));have HO165 := Aside0.mk (ho);clear HO_3;clear ho hb hg hat))
     go_roundg k2
     case measure => have := HK1.out;have := HK2.out;omega
     case rel => exact ⟨(y163),H',⟨by have := HK1.out;have := HK2.out;omega⟩,⟨ZKS HO165⟩,⟨ZS HI0⟩,⟨ZW HK⟩,⟨by repeat (first|(with_reducible first|exact HB.out|apply zbA|apply zbB|apply zbC|refine below_set ?_ (IsS49.ge HI0.out))|exact HB.out)⟩⟩
end Go.Proofs.Ytgnijnlgbelifaa.Q
