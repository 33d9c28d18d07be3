-- Written for the seat Ytgnijnlgbelifaa by a program of this session (wip/tool/gx.py) out of the translation. Lean checks it.
import Derived.Test.YtgnijnlgbelifaaQ0
import Derived.Test.YtgnijnlgbelifaaGCall
import Derived.Test.YtgnijnlgbelifaaQBImplHasNeeds1
import Derived.Test.YtgnijnlgbelifaaQBSpecDrawLessonsOf
import Derived.Test.YtgnijnlgbelifaaQImplAreWords
import Derived.Test.YtgnijnlgbelifaaQImplMostUsed
import Derived.Test.YtgnijnlgbelifaaGVal
import Derived.Test.YtgnijnlgbelifaaWTab
import Derived.Test.YtgnijnlgbelifaaWKept
import Derived.Test.YtgnijnlgbelifaaWRepsOne
import Derived.Test.YtgnijnlgbelifaaWTab
import Derived.Test.YtgnijnlgbelifaaWApart
import Derived.Test.YtgnijnlgbelifaaWFoot
import Derived.Test.YtgnijnlgbelifaaWKept
import Derived.Test.YtgnijnlgbelifaaWShare
import Derived.Test.YtgnijnlgbelifaaWN
import Derived.Test.YtgnijnlgbelifaaWRepsOne
namespace Go.Proofs.Ytgnijnlgbelifaa.Q
open Go.RowKit Go.Proofs.YtgnijnlgbelifaaW.PrintWords Go.Proofs.YtgnijnlgbelifaaW.PrintLast Go.Proofs.YtgnijnlgbelifaaW.PrintMore Go.Proofs.YtgnijnlgbelifaaW.GCall
attribute [local go_sem] max2_int min2_int max_two min_two max_three min_three max_four min_four   -- for this text's walks alone
set_option linter.unusedVariables false
set_option linter.unusedSimpArgs false

/-! ### impl_LessonsOf: function 6 -/
def impl_LessonsOf.p (k : Nat) (l0 : List S43) (t L : List Int) (x : Int) : Option Bool := (slices_Contains_int.f k t x).bind fun a => if a = true then some false else (slices_Contains_int.f k L x).bind fun b => if b = true then some false else (if 0 ≤ x then (if x < (l0.length : Int) then impl_hasNeeds.f k (rd_T43 l0 x).f0 (rd_T43 l0 x).f1 (rd_T43 l0 x).f2 t else none) else none)
theorem impl_LessonsOf.p_mono (k : Nat) (l0 : List S43) (t L : List Int) (x : Int) : LeO (impl_LessonsOf.p k l0 t L x) (impl_LessonsOf.p (k + 1) l0 t L x) := LeO.bind (slices_Contains_int.mono _ _ _) (fun _ => LeO.ite (LeO.refl _) (LeO.bind (slices_Contains_int.mono _ _ _) (fun _ => LeO.ite (LeO.refl _) (LeO.ite (LeO.ite (impl_hasNeeds.mono _ _ _ _ _) (LeO.refl _)) (LeO.refl _)))))
def impl_LessonsOf.l1 : Nat → List S43 → Int → List Int → List Int → Option (List Int)
 | 0,_,_,_,_ => none
 | k + 1,l0,s,t,L => if (L.length : Int) < s then ((impl_mostUsed.f (impl_LessonsOf.p k l0 t L) k l0).bind fun n => if n < 0 then some L else if L.length < 17592186044416 then impl_LessonsOf.l1 k l0 s t (L ++ [n]) else none) else some L
def impl_LessonsOf.l0 : Nat → List S43 → Int → List (List Int) → List Int → Option (List (List Int) × Bool)
 | 0,_,_,_,_ => none
 | k + 1,l0,s,out,t => if (t.length : Int) < (l0.length : Int) then ((impl_LessonsOf.l1 k l0 s t []).bind fun L => if (L.length : Int) = 0 then some ([],false) else (slices_Sort_int.f L).bind fun M => if out.length < 4398046511104 then (if t.length + M.length < 17592186044416 then impl_LessonsOf.l0 k l0 s (out ++ [M]) (t ++ M) else none) else none) else some (out,true)
def impl_LessonsOf.f (k : Nat) (l0 : List S43) (s : Int) : Option (List (List Int) × Bool) := (impl_AreWords.f k l0).bind fun a => if a = true then ((impl_within.f s 1 16).bind fun b => if b = true then impl_LessonsOf.l0 k l0 s [] [] else some ([],false)) else some ([],false)
theorem impl_LessonsOf.mono_1 : ∀ k,∀ y0 y1 y2 y3,LeO (impl_LessonsOf.l1 k y0 y1 y2 y3) (impl_LessonsOf.l1 (k + 1) y0 y1 y2 y3)
 | 0 => fun _ _ _ _ r h => by simp [impl_LessonsOf.l1] at h
 | k + 1 => by
  intro y0 y1 y2 y3
  rw [impl_LessonsOf.l1,impl_LessonsOf.l1]
  exact LeO.ite (LeO.bind (impl_mostUsed.mono _ _ (fun x => impl_LessonsOf.p_mono k y0 y2 y3 x) _ _) (fun _ => LeO.ite (LeO.refl _) (LeO.ite (impl_LessonsOf.mono_1 k _ _ _ _) (LeO.refl _)))) (LeO.refl _)
theorem impl_LessonsOf.mono_l : ∀ k,∀ y0 y1 y2 y3,LeO (impl_LessonsOf.l0 k y0 y1 y2 y3) (impl_LessonsOf.l0 (k + 1) y0 y1 y2 y3)
 | 0 => fun _ _ _ _ r h => by simp [impl_LessonsOf.l0] at h
 | k + 1 => by
  intro y0 y1 y2 y3
  rw [impl_LessonsOf.l0,impl_LessonsOf.l0]
  exact LeO.ite (LeO.bind (impl_LessonsOf.mono_1 k _ _ _ _) (fun _ => LeO.ite (LeO.refl _) (LeO.bind (LeO.refl _) (fun _ => LeO.ite (LeO.ite (impl_LessonsOf.mono_l k _ _ _ _) (LeO.refl _)) (LeO.refl _))))) (LeO.refl _)
theorem impl_LessonsOf.mono : ∀ a0 a1 k,LeO (impl_LessonsOf.f k a0 a1) (impl_LessonsOf.f (k + 1) a0 a1) := by
 intro a0 a1 k
 unfold impl_LessonsOf.f
 exact LeO.bind (impl_AreWords.mono _ _) (fun _ => LeO.ite (LeO.bind (LeO.refl _) (fun _ => LeO.ite (impl_LessonsOf.mono_l k _ _ _ _) (LeO.refl _))) (LeO.refl _))
set_option maxHeartbeats 1000000
open Go.RowKit Go.Lib Go.Proofs.YtgnijnlgbelifaaW.PrintWords Go.Proofs.YtgnijnlgbelifaaW.PrintLast Go.Proofs.YtgnijnlgbelifaaW.PrintMore Go.Proofs.YtgnijnlgbelifaaW Go.Proofs.Ytgnijnlgbelifaa.Q Go.Proofs.YtgnijnlgbelifaaW.GCall
def impl_LessonsOf.T1 : Bool × List (List Nat × List Nat) := (true,[([],[]),([],[]),([0,1],[0,1]),([2],[2]),([3,2],[3]),([4],[4]),([4],[4]),([5,6,4,4],[4,5,6]),([7,4],[4,7]),([4,8],[4,8]),([9,7],[9]),([10],[10]),([10],[10]),([11,12,10],[10,11,12]),([13,10],[10,13]),([10],[10]),([14,15,10,10],[10,14,15]),([10,16],[10,16]),([17,16,0,1,2,3,4,5,6,7,8,9,10,11,12,13,14,15,16,17],[17])])
def impl_LessonsOf.B1 : List Nat := [0,0,3,7,15,31,31,127,255,511,1023,2047,2047,8191,16383,2047,65535,131071,262143]
theorem impl_LessonsOf.tab1 : rtab .any (opsOf Try.f25 1) = impl_LessonsOf.T1 := by kernel_rfl
theorem impl_LessonsOf.bits1 : waitsOk impl_LessonsOf.T1.2 impl_LessonsOf.B1 = true := by kernel_rfl
set_option maxHeartbeats 4000000 in
set_option maxRecDepth 100000 in
theorem impl_LessonsOf.lit (k : Nat) (A0 : Option Addr) (c0 : Nat) (l0 : List S43) (At : Option Addr) (ct : Nat) (t : List Int) (AL : Option Addr) (cL : Nat) (L : List Int) (x : Int) (b : Bool) (gt gl gb : Nat) (W : World) (hr0 : Kd.C k43 W A0 l0.length l0) (hc0 : l0.length ≤ c0) (hrt : Kd.C (Kd.int .i64) W At t.length t) (hct : t.length ≤ ct) (hrl : Kd.C (Kd.int .i64) W AL L.length L) (hcl : L.length ≤ cL) (hbt : W.cell? ⟨gt,0,none⟩ = some (.slice At t.length ct)) (hbl : W.cell? ⟨gl,0,none⟩ = some (.slice AL L.length cL)) (hbb : W.cell? ⟨gb,0,none⟩ = some (.slice A0 l0.length c0)) (h : impl_LessonsOf.p k l0 t L x = some b) :
  Calls Try.prog 25 #[.int .i64 x,.pointer (some ⟨gt,0,none⟩),.pointer (some ⟨gl,0,none⟩),.pointer (some ⟨gb,0,none⟩)] W fun e w' => e = .returned (.bool b) ∧ Below W.heap.size W w' := by
 have hu := Try.underlying43
 have HRT := Aside0.mk hrt
 have HCT := Aside0.mk hct
 have HRL := Aside0.mk hrl
 have HCL := Aside0.mk hcl
 clear hrt hct hrl hcl
 unfold impl_LessonsOf.p at h
 obtain ⟨a,A1,h⟩ := Option.bind_eq_some_iff.mp h
 replace A1 := Aside0.mk A1
 cases a with
 | true =>
  rw [if_pos rfl] at h
  obtain rfl := Option.some.inj h
  clear hr0 hc0
  go_enter Try.func25,Try.ntmps25
  go_wp2
  refine start_ (n := 19) (S := fun w' => w'.cell? ⟨gt,0,none⟩ = some (.slice At t.length ct) ∧ w'.cell? ⟨gl,0,none⟩ = some (.slice AL L.length cL) ∧ w'.cell? ⟨gb,0,none⟩ = some (.slice A0 l0.length c0)) (ds := []) #[X,X,X,X,X,X,X,X,X,X,X,X,X,X,X,X,X,X,X] (by kernel_rfl) rfl rfl ⟨hbt,hbl,hbb⟩ (fun hHeld => ?_);refine with_tabW impl_LessonsOf.tab1 impl_LessonsOf.bits1 (fun HT_ HW_ => ?_)
  have HBB := Aside0.mk (below_drew1 (Below.refl W.heap.size W))
  clear hbt hbl hbb
  generalize W.drew = w2 at HBB hHeld ⊢
  refine YT 0 6 #[Y,X,X,X,X,X,X,X,X,X,X,X,X,X,X,X,X,X,X] rfl rfl HT_ HW_ hHeld ?_
  refine YP 1 7 #[Y,Y,X,X,X,X,X,X,X,X,X,X,X,X,X,X,X,X,X] rfl rfl HT_ ?_
  refine ZO 2 8 #[Y,Y,Y,X,X,X,X,X,X,X,X,X,X,X,X,X,X,X,X] rfl rfl HT_ fun K hK => ?_
  refine goes_ Try.func26 (by kernel_rfl) rfl #[.slice At t.length ct,.int .i64 x] (by rfl) rfl rfl (by (try simp only [List.map_toArray,List.map_cons,List.map_nil]);first|done|rfl|(simp only [List.length_drop,List.length_take];rfl)) ?_
  with_reducible refine (slices_Contains_int.calls k _ _ t x true _ (Kd.C_below HRT.out HBB.out) HCT.out A1.out).mono ?_
  rintro e w' ⟨rfl,nd_,rfl⟩
  refine ⟨_,rfl,?_⟩
  replace HBB := Aside0.mk (pw_below_drewN HBB.out nd_)
  refine hK.out _ _ hHeld (fun hHeld => ?_)
  clear hK K
  refine norm_ (a' := ?_) ?_ ?_
  rotate_left
  ·show Act.put _ (some 8) _ = _
   simp only [Act.put,zuA,zuB,zuC,i64_w,i32_w]
   rfl
  generalize World.drewN _ nd_ = w2 at HBB hHeld ⊢
  refine YP 3 9 #[Y,Y,Y,Y,X,X,X,X,X,X,X,X,X,X,X,X,X,X,X] rfl rfl HT_ ?_
  refine YP 4 10 #[Y,Y,Y,Y,Y,X,X,X,X,X,X,X,X,X,X,X,X,X,X] rfl rfl HT_ ?_
  refine YU 5 11 #[Y,Y,Y,Y,Y,Y,X,X,X,X,X,X,X,X,X,X,X,X,X] rfl rfl HT_ ?_
  refine YU 6 12 #[Y,Y,Y,Y,Y,Y,Y,X,X,X,X,X,X,X,X,X,X,X,X] rfl rfl HT_ ?_
  refine YU 7 13 #[Y,Y,Y,Y,Y,Y,Y,Y,X,X,X,X,X,X,X,X,X,X,X] rfl rfl HT_ ?_
  refine YU 8 14 #[Y,Y,Y,Y,Y,Y,Y,Y,Y,X,X,X,X,X,X,X,X,X,X] rfl rfl HT_ ?_
  refine YP 9 15 #[Y,Y,Y,Y,Y,Y,Y,Y,Y,Y,X,X,X,X,X,X,X,X,X] rfl rfl HT_ ?_
  refine YP 10 16 #[Y,Y,Y,Y,Y,Y,Y,Y,Y,Y,Y,X,X,X,X,X,X,X,X] rfl rfl HT_ ?_
  refine YU 11 17 #[Y,Y,Y,Y,Y,Y,Y,Y,Y,Y,Y,Y,X,X,X,X,X,X,X] rfl rfl HT_ ?_
  refine YU 12 18 #[Y,Y,Y,Y,Y,Y,Y,Y,Y,Y,Y,Y,Y,X,X,X,X,X,X] rfl rfl HT_ ?_
  refine YU 13 19 #[Y,Y,Y,Y,Y,Y,Y,Y,Y,Y,Y,Y,Y,Y,X,X,X,X,X] rfl rfl HT_ ?_
  refine YU 14 20 #[Y,Y,Y,Y,Y,Y,Y,Y,Y,Y,Y,Y,Y,Y,Y,X,X,X,X] rfl rfl HT_ ?_
  refine YU 15 21 #[Y,Y,Y,Y,Y,Y,Y,Y,Y,Y,Y,Y,Y,Y,Y,Y,X,X,X] rfl rfl HT_ ?_
  refine YU 16 22 #[Y,Y,Y,Y,Y,Y,Y,Y,Y,Y,Y,Y,Y,Y,Y,Y,Y,X,X] rfl rfl HT_ ?_
  refine YP 17 23 #[Y,Y,Y,Y,Y,Y,Y,Y,Y,Y,Y,Y,Y,Y,Y,Y,Y,Y,X] rfl rfl HT_ ?_
  refine YP 18 5 #[Y,Y,Y,Y,Y,Y,Y,Y,Y,Y,Y,Y,Y,Y,Y,Y,Y,Y,Y] rfl rfl HT_ ?_
  refine done_ (done_of HT_.out (by kernel_rfl)) ?_
  try go_wp2
  go_ret
  exact ⟨rfl,HBB.out⟩
 | false =>
  rw [if_neg (by decide)] at h
  obtain ⟨a2,A2,h⟩ := Option.bind_eq_some_iff.mp h
  replace A2 := Aside0.mk A2
  cases a2 with
  | true =>
   rw [if_pos rfl] at h
   obtain rfl := Option.some.inj h
   clear hr0 hc0
   go_enter Try.func25,Try.ntmps25
   go_wp2
   refine start_ (n := 19) (S := fun w' => w'.cell? ⟨gt,0,none⟩ = some (.slice At t.length ct) ∧ w'.cell? ⟨gl,0,none⟩ = some (.slice AL L.length cL) ∧ w'.cell? ⟨gb,0,none⟩ = some (.slice A0 l0.length c0)) (ds := []) #[X,X,X,X,X,X,X,X,X,X,X,X,X,X,X,X,X,X,X] (by kernel_rfl) rfl rfl ⟨hbt,hbl,hbb⟩ (fun hHeld => ?_);refine with_tabW impl_LessonsOf.tab1 impl_LessonsOf.bits1 (fun HT_ HW_ => ?_)
   have HBB := Aside0.mk (below_drew1 (Below.refl W.heap.size W))
   clear hbt hbl hbb
   generalize W.drew = w2 at HBB hHeld ⊢
   refine YT 0 6 #[Y,X,X,X,X,X,X,X,X,X,X,X,X,X,X,X,X,X,X] rfl rfl HT_ HW_ hHeld ?_
   refine YP 1 7 #[Y,Y,X,X,X,X,X,X,X,X,X,X,X,X,X,X,X,X,X] rfl rfl HT_ ?_
   refine ZO 2 8 #[Y,Y,Y,X,X,X,X,X,X,X,X,X,X,X,X,X,X,X,X] rfl rfl HT_ fun K hK => ?_
   refine goes_ Try.func26 (by kernel_rfl) rfl #[.slice At t.length ct,.int .i64 x] (by rfl) rfl rfl (by (try simp only [List.map_toArray,List.map_cons,List.map_nil]);first|done|rfl|(simp only [List.length_drop,List.length_take];rfl)) ?_
   with_reducible refine (slices_Contains_int.calls k _ _ t x false _ (Kd.C_below HRT.out HBB.out) HCT.out A1.out).mono ?_
   rintro e w' ⟨rfl,nd_,rfl⟩
   refine ⟨_,rfl,?_⟩
   replace HBB := Aside0.mk (pw_below_drewN HBB.out nd_)
   refine hK.out _ _ hHeld (fun hHeld => ?_)
   clear hK K
   refine norm_ (a' := ?_) ?_ ?_
   rotate_left
   ·show Act.put _ (some 8) _ = _
    simp only [Act.put,zuA,zuB,zuC,i64_w,i32_w]
    rfl
   generalize World.drewN _ nd_ = w2 at HBB hHeld ⊢
   refine YP 3 9 #[Y,Y,Y,Y,X,X,X,X,X,X,X,X,X,X,X,X,X,X,X] rfl rfl HT_ ?_
   refine YP 4 10 #[Y,Y,Y,Y,Y,X,X,X,X,X,X,X,X,X,X,X,X,X,X] rfl rfl HT_ ?_
   refine YT 5 11 #[Y,Y,Y,Y,Y,Y,X,X,X,X,X,X,X,X,X,X,X,X,X] rfl rfl HT_ HW_ hHeld ?_
   refine YP 6 12 #[Y,Y,Y,Y,Y,Y,Y,X,X,X,X,X,X,X,X,X,X,X,X] rfl rfl HT_ ?_
   refine ZO 7 13 #[Y,Y,Y,Y,Y,Y,Y,Y,X,X,X,X,X,X,X,X,X,X,X] rfl rfl HT_ fun K hK => ?_
   refine goes_ Try.func26 (by kernel_rfl) rfl #[.slice AL L.length cL,.int .i64 x] (by rfl) rfl rfl (by (try simp only [List.map_toArray,List.map_cons,List.map_nil]);first|done|rfl|(simp only [List.length_drop,List.length_take];rfl)) ?_
   with_reducible refine (slices_Contains_int.calls k _ _ L x true _ (Kd.C_below HRL.out HBB.out) HCL.out A2.out).mono ?_
   rintro e w' ⟨rfl,nd_,rfl⟩
   refine ⟨_,rfl,?_⟩
   replace HBB := Aside0.mk (pw_below_drewN HBB.out nd_)
   refine hK.out _ _ hHeld (fun hHeld => ?_)
   clear hK K
   refine norm_ (a' := ?_) ?_ ?_
   rotate_left
   ·show Act.put _ (some 13) _ = _
    simp only [Act.put,zuA,zuB,zuC,i64_w,i32_w]
    rfl
   generalize World.drewN _ nd_ = w2 at HBB hHeld ⊢
   refine YP 8 14 #[Y,Y,Y,Y,Y,Y,Y,Y,Y,X,X,X,X,X,X,X,X,X,X] rfl rfl HT_ ?_
   refine YP 9 15 #[Y,Y,Y,Y,Y,Y,Y,Y,Y,Y,X,X,X,X,X,X,X,X,X] rfl rfl HT_ ?_
   refine YP 10 16 #[Y,Y,Y,Y,Y,Y,Y,Y,Y,Y,Y,X,X,X,X,X,X,X,X] rfl rfl HT_ ?_
   refine YU 11 17 #[Y,Y,Y,Y,Y,Y,Y,Y,Y,Y,Y,Y,X,X,X,X,X,X,X] rfl rfl HT_ ?_
   refine YU 12 18 #[Y,Y,Y,Y,Y,Y,Y,Y,Y,Y,Y,Y,Y,X,X,X,X,X,X] rfl rfl HT_ ?_
   refine YU 13 19 #[Y,Y,Y,Y,Y,Y,Y,Y,Y,Y,Y,Y,Y,Y,X,X,X,X,X] rfl rfl HT_ ?_
   refine YU 14 20 #[Y,Y,Y,Y,Y,Y,Y,Y,Y,Y,Y,Y,Y,Y,Y,X,X,X,X] rfl rfl HT_ ?_
   refine YU 15 21 #[Y,Y,Y,Y,Y,Y,Y,Y,Y,Y,Y,Y,Y,Y,Y,Y,X,X,X] rfl rfl HT_ ?_
   refine YU 16 22 #[Y,Y,Y,Y,Y,Y,Y,Y,Y,Y,Y,Y,Y,Y,Y,Y,Y,X,X] rfl rfl HT_ ?_
   refine YP 17 23 #[Y,Y,Y,Y,Y,Y,Y,Y,Y,Y,Y,Y,Y,Y,Y,Y,Y,Y,X] rfl rfl HT_ ?_
   refine YP 18 5 #[Y,Y,Y,Y,Y,Y,Y,Y,Y,Y,Y,Y,Y,Y,Y,Y,Y,Y,Y] rfl rfl HT_ ?_
   refine done_ (done_of HT_.out (by kernel_rfl)) ?_
   try go_wp2
   go_ret
   exact ⟨rfl,HBB.out⟩
  | false =>
   rw [if_neg (by decide)] at h
   split at h
   case isFalse => cases h
   rename_i p101
   split at h
   case isFalse => cases h
   rename_i q101
   obtain ⟨ad101,A101_1,c101_1,e101,hx101_0,hx101_1,hx101_2,hl101_1,hi101_1⟩ := at_T43 hr0 x p101 q101
   cases e101
   have hcon := fun W' (hW : Below W.heap.size W W') => (impl_hasNeeds.calls k (rd_T43 l0 x).f0 A101_1 c101_1 (rd_T43 l0 x).f1 (rd_T43 l0 x).f2 At ct t b W' (Kd.C_below hi101_1 hW) hl101_1 (Kd.C_below HRT.out hW) HCT.out h)
   have HN := Aside0.mk hcon
   have P101 := eq_true p101
   have Q101 := eq_true q101
   clear hcon hr0 hc0 h hi101_1 p101 q101
   generalize (rd_T43 l0 x).f0 = y0 at hx101_0 HN
   generalize (rd_T43 l0 x).f2 = y2 at hx101_2 HN
   generalize (rd_T43 l0 x).f1 = y1 at hx101_1 HN hl101_1
   go_enter Try.func25,Try.ntmps25
   go_wp2
   refine start_ (n := 19) (S := fun w' => w'.cell? ⟨gt,0,none⟩ = some (.slice At t.length ct) ∧ w'.cell? ⟨gl,0,none⟩ = some (.slice AL L.length cL) ∧ w'.cell? ⟨gb,0,none⟩ = some (.slice (some ad101) l0.length c0) ∧ w'.cell? (ad101.add ((x).toNat * 3)) = some (.string y0) ∧ w'.cell? ⟨(ad101.add ((x).toNat * 3)).block,(ad101.add ((x).toNat * 3)).off + 1,none⟩ = some (.slice A101_1 y1.length c101_1) ∧ w'.cell? ⟨(ad101.add ((x).toNat * 3)).block,(ad101.add ((x).toNat * 3)).off + 2,none⟩ = some (.int .i64 y2)) (ds := []) #[X,X,X,X,X,X,X,X,X,X,X,X,X,X,X,X,X,X,X] (by kernel_rfl) rfl rfl ⟨hbt,hbl,hbb,hx101_0,hx101_1,hx101_2⟩ (fun hHeld => ?_);refine with_tabW impl_LessonsOf.tab1 impl_LessonsOf.bits1 (fun HT_ HW_ => ?_)
   have HBB := Aside0.mk (below_drew1 (Below.refl W.heap.size W))
   clear hbt hbl hbb hx101_0 hx101_1 hx101_2
   generalize W.drew = w2 at HBB hHeld ⊢
   refine YT 0 6 #[Y,X,X,X,X,X,X,X,X,X,X,X,X,X,X,X,X,X,X] rfl rfl HT_ HW_ hHeld ?_
   refine YP 1 7 #[Y,Y,X,X,X,X,X,X,X,X,X,X,X,X,X,X,X,X,X] rfl rfl HT_ ?_
   refine ZO 2 8 #[Y,Y,Y,X,X,X,X,X,X,X,X,X,X,X,X,X,X,X,X] rfl rfl HT_ fun K hK => ?_
   refine goes_ Try.func26 (by kernel_rfl) rfl #[.slice At t.length ct,.int .i64 x] (by rfl) rfl rfl (by (try simp only [List.map_toArray,List.map_cons,List.map_nil]);first|done|rfl|(simp only [List.length_drop,List.length_take];rfl)) ?_
   with_reducible refine (slices_Contains_int.calls k _ _ t x false _ (Kd.C_below HRT.out HBB.out) HCT.out A1.out).mono ?_
   rintro e w' ⟨rfl,nd_,rfl⟩
   refine ⟨_,rfl,?_⟩
   replace HBB := Aside0.mk (pw_below_drewN HBB.out nd_)
   refine hK.out _ _ hHeld (fun hHeld => ?_)
   clear hK K
   refine norm_ (a' := ?_) ?_ ?_
   rotate_left
   ·show Act.put _ (some 8) _ = _
    simp only [Act.put,zuA,zuB,zuC,i64_w,i32_w]
    rfl
   generalize World.drewN _ nd_ = w2 at HBB hHeld ⊢
   refine YP 3 9 #[Y,Y,Y,Y,X,X,X,X,X,X,X,X,X,X,X,X,X,X,X] rfl rfl HT_ ?_
   refine YP 4 10 #[Y,Y,Y,Y,Y,X,X,X,X,X,X,X,X,X,X,X,X,X,X] rfl rfl HT_ ?_
   refine YT 5 11 #[Y,Y,Y,Y,Y,Y,X,X,X,X,X,X,X,X,X,X,X,X,X] rfl rfl HT_ HW_ hHeld ?_
   refine YP 6 12 #[Y,Y,Y,Y,Y,Y,Y,X,X,X,X,X,X,X,X,X,X,X,X] rfl rfl HT_ ?_
   refine ZO 7 13 #[Y,Y,Y,Y,Y,Y,Y,Y,X,X,X,X,X,X,X,X,X,X,X] rfl rfl HT_ fun K hK => ?_
   refine goes_ Try.func26 (by kernel_rfl) rfl #[.slice AL L.length cL,.int .i64 x] (by rfl) rfl rfl (by (try simp only [List.map_toArray,List.map_cons,List.map_nil]);first|done|rfl|(simp only [List.length_drop,List.length_take];rfl)) ?_
   with_reducible refine (slices_Contains_int.calls k _ _ L x false _ (Kd.C_below HRL.out HBB.out) HCL.out A2.out).mono ?_
   rintro e w' ⟨rfl,nd_,rfl⟩
   refine ⟨_,rfl,?_⟩
   replace HBB := Aside0.mk (pw_below_drewN HBB.out nd_)
   refine hK.out _ _ hHeld (fun hHeld => ?_)
   clear hK K
   refine norm_ (a' := ?_) ?_ ?_
   rotate_left
   ·show Act.put _ (some 13) _ = _
    simp only [Act.put,zuA,zuB,zuC,i64_w,i32_w]
    rfl
   generalize World.drewN _ nd_ = w2 at HBB hHeld ⊢
   refine YP 8 14 #[Y,Y,Y,Y,Y,Y,Y,Y,Y,X,X,X,X,X,X,X,X,X,X] rfl rfl HT_ ?_
   refine YP 9 15 #[Y,Y,Y,Y,Y,Y,Y,Y,Y,Y,X,X,X,X,X,X,X,X,X] rfl rfl HT_ ?_
   refine YP 10 16 #[Y,Y,Y,Y,Y,Y,Y,Y,Y,Y,Y,X,X,X,X,X,X,X,X] rfl rfl HT_ ?_
   refine YT 11 17 #[Y,Y,Y,Y,Y,Y,Y,Y,Y,Y,Y,Y,X,X,X,X,X,X,X] rfl rfl HT_ HW_ hHeld ?_
   refine YP 12 18 #[Y,Y,Y,Y,Y,Y,Y,Y,Y,Y,Y,Y,Y,X,X,X,X,X,X] rfl rfl HT_ ?_
   refine YP 13 19 #[Y,Y,Y,Y,Y,Y,Y,Y,Y,Y,Y,Y,Y,Y,X,X,X,X,X] rfl rfl HT_ ?_
   refine YT 14 20 #[Y,Y,Y,Y,Y,Y,Y,Y,Y,Y,Y,Y,Y,Y,Y,X,X,X,X] rfl rfl HT_ HW_ hHeld ?_
   refine YT 15 21 #[Y,Y,Y,Y,Y,Y,Y,Y,Y,Y,Y,Y,Y,Y,Y,Y,X,X,X] rfl rfl HT_ HW_ hHeld ?_
   refine ZO 16 22 #[Y,Y,Y,Y,Y,Y,Y,Y,Y,Y,Y,Y,Y,Y,Y,Y,Y,X,X] rfl rfl HT_ fun K hK => ?_
   refine goes_ Try.func27 (by kernel_rfl) rfl #[.agg #[.string y0,.slice A101_1 y1.length c101_1,.int .i64 y2],.slice At t.length ct] (by rfl) rfl rfl (by (try simp only [List.map_toArray,List.map_cons,List.map_nil]);first|done|rfl|(simp only [List.length_drop,List.length_take];rfl)) ?_
   with_reducible refine (HN.out _ HBB.out).mono ?_
   rintro e w' ⟨rfl,hb'⟩
   refine ⟨_,rfl,?_⟩
   obtain ⟨s0,s1,s2,s3,s4,s5⟩ := hHeld
   refine hK.out _ _ ⟨(hb'.cell (World.block_lt_of_cell? _ _ s0)).trans s0,(hb'.cell (World.block_lt_of_cell? _ _ s1)).trans s1,(hb'.cell (World.block_lt_of_cell? _ _ s2)).trans s2,(hb'.cell (World.block_lt_of_cell? _ _ s3)).trans s3,(hb'.cell (World.block_lt_of_cell? _ _ s4)).trans s4,(hb'.cell (World.block_lt_of_cell? _ _ s5)).trans s5⟩ (fun hHeld => ?_)
   have n0_ := Aside0.mk (below_step HBB.out hb')
   clear HBB
   have HBB := n0_
   clear n0_ hb'
   clear hK K
   refine norm_ (a' := ?_) ?_ ?_
   rotate_left
   ·show Act.put _ (some 22) _ = _
    simp only [Act.put,zuA,zuB,zuC,i64_w,i32_w]
    rfl
   refine YP 17 23 #[Y,Y,Y,Y,Y,Y,Y,Y,Y,Y,Y,Y,Y,Y,Y,Y,Y,Y,X] rfl rfl HT_ ?_
   refine YP 18 5 #[Y,Y,Y,Y,Y,Y,Y,Y,Y,Y,Y,Y,Y,Y,Y,Y,Y,Y,Y] rfl rfl HT_ ?_
   refine done_ (done_of HT_.out (by kernel_rfl)) ?_
   try go_wp2
   go_ret
   exact ⟨rfl,HBB.out⟩
set_option maxHeartbeats 3000000 in
set_option maxRecDepth 100000 in
theorem impl_LessonsOf.calls (k : Nat) (A0 : Option Addr) (c0 : Nat) (l0 : List S43) (a1 : Int) (r1 : List (List Int)) (r2 : Bool) (w : World) (hr0 : Kd.C k43 w A0 l0.length l0) (hc0 : l0.length ≤ c0) (h : impl_LessonsOf.f k l0 a1 = some (r1,r2)) :
  Calls Try.prog 6 #[.slice A0 l0.length c0,.int .i64 a1] w fun e w' => ∃ v0_ : Value,e = .returned (.tuple #[v0_,.bool r2]) ∧ Kd.S (Kd.slice 3 (Kd.int .i64)) 32 w' w.heap.size (fun _ => True) v0_ r1 ∧ Below w.heap.size w w' := by
 have eg : ∀ args w,(callFunc 25 args).run Try.prog w = .ok (.enter 25 args) w := enters_of Try.func25 (by kernel_rfl) rfl
 have HR0 := Aside0.mk hr0
 have HC0 := Aside0.mk hc0
 clear hr0 hc0
 have HB := Aside0.mk (Below.refl w.heap.size w)
 unfold impl_LessonsOf.f at h
 obtain ⟨a,A1,h⟩ := Option.bind_eq_some_iff.mp h
 replace A1 := Aside0.mk A1
 cases a with
 | false =>
  rw [if_neg (by decide)] at h
  simp only [Option.some.injEq,Prod.mk.injEq] at h
  obtain ⟨rfl,rfl⟩ := h
  go_enter Try.func6,Try.ntmps6
  go_wp2_with (first|((with_reducible refine gate_dst (N := 2) rfl ?_);refine ZE 2 #[.slice A0 l0.length c0] 24 ?_;intro g2 hg w1 hbox hb;have BK2 := Aside0.mk hbox;have GE2 := Aside0.mk (show w.heap.size ≤ g2 from Nat.le_of_eq hg.symm);have n1_ := Aside0.mk (below_step HB.out hb);clear HB;have HB := n1_;clear n1_ hb hg hbox;have hx2 := (blk_cell BK2.out 0).trans (show (#[Value.slice A0 l0.length c0] : Array Value)[0]? = some (.slice A0 l0.length c0) from rfl))|(go_at_call 14;refine (impl_AreWords.calls k _ _ l0 false _ (Kd.C_below HR0.out HB.out) HC0.out A1.out).mono ?_;rintro e w5 ⟨rfl,hb⟩;have n0_ := Aside0.mk (below_step HB.out hb);have n1_ := Aside0.mk (blk_below BK2.out hb);clear HB BK2 hx2;have HB := n0_;have BK2 := n1_;clear n0_ n1_ hb;have hx2 := (blk_cell BK2.out 0).trans (show (#[Value.slice A0 l0.length c0] : Array Value)[0]? = some (.slice A0 l0.length c0) from rfl)))
  go_ret2
  exact ⟨.slice none 0 0,by first|rfl|(simp;done),Kd.S_nil _ _ _ _ _,HB.out⟩
 | true =>
  rw [if_pos rfl] at h
  obtain ⟨b,A2,h⟩ := Option.bind_eq_some_iff.mp h
  replace A2 := Aside0.mk A2
  cases b with
  | false =>
   rw [if_neg (by decide)] at h
   simp only [Option.some.injEq,Prod.mk.injEq] at h
   obtain ⟨rfl,rfl⟩ := h
   go_enter Try.func6,Try.ntmps6
   go_wp2_with (first|((with_reducible refine gate_dst (N := 2) rfl ?_);refine ZE 2 #[.slice A0 l0.length c0] 24 ?_;intro g2 hg w1 hbox hb;have BK2 := Aside0.mk hbox;have GE2 := Aside0.mk (show w.heap.size ≤ g2 from Nat.le_of_eq hg.symm);have n1_ := Aside0.mk (below_step HB.out hb);clear HB;have HB := n1_;clear n1_ hb hg hbox;have hx2 := (blk_cell BK2.out 0).trans (show (#[Value.slice A0 l0.length c0] : Array Value)[0]? = some (.slice A0 l0.length c0) from rfl))|(go_at_call 14;refine (impl_AreWords.calls k _ _ l0 true _ (Kd.C_below HR0.out HB.out) HC0.out A1.out).mono ?_;rintro e w5 ⟨rfl,hb⟩;have n0_ := Aside0.mk (below_step HB.out hb);have n1_ := Aside0.mk (blk_below BK2.out hb);clear HB BK2 hx2;have HB := n0_;have BK2 := n1_;clear n0_ n1_ hb;have hx2 := (blk_cell BK2.out 0).trans (show (#[Value.slice A0 l0.length c0] : Array Value)[0]? = some (.slice A0 l0.length c0) from rfl))|(go_at_call 23;refine (impl_within.calls a1 1 16 false _ A2.out).mono ?_;rintro e w' ⟨rfl,nd_,rfl⟩;replace HB := Aside0.mk (pw_below_drewN HB.out nd_);replace BK2 := Aside0.mk (blk_drewN BK2.out nd_);clear hx2;have hx2 := (blk_cell BK2.out 0).trans (show (#[Value.slice A0 l0.length c0] : Array Value)[0]? = some (.slice A0 l0.length c0) from rfl)))
   go_ret2
   exact ⟨.slice none 0 0,by first|rfl|(simp;done),Kd.S_nil _ _ _ _ _,HB.out⟩
  | true =>
   rw [if_pos rfl] at h
   have H' := Aside0.mk h
   clear h
   go_enter Try.func6,Try.ntmps6
   go_wp2_with (first|((with_reducible refine gate_dst (N := 2) rfl ?_);refine ZE 2 #[.slice A0 l0.length c0] 24 ?_;intro g2 hg w1 hbox hb;have BK2 := Aside0.mk hbox;have GE2 := Aside0.mk (show w.heap.size ≤ g2 from Nat.le_of_eq hg.symm);have n1_ := Aside0.mk (below_step HB.out hb);clear HB;have HB := n1_;clear n1_ hb hg hbox;have hx2 := (blk_cell BK2.out 0).trans (show (#[Value.slice A0 l0.length c0] : Array Value)[0]? = some (.slice A0 l0.length c0) from rfl))|(go_at_call 14;refine (impl_AreWords.calls k _ _ l0 true _ (Kd.C_below HR0.out HB.out) HC0.out A1.out).mono ?_;rintro e w5 ⟨rfl,hb⟩;have n0_ := Aside0.mk (below_step HB.out hb);have n1_ := Aside0.mk (blk_below BK2.out hb);clear HB BK2 hx2;have HB := n0_;have BK2 := n1_;clear n0_ n1_ hb;have hx2 := (blk_cell BK2.out 0).trans (show (#[Value.slice A0 l0.length c0] : Array Value)[0]? = some (.slice A0 l0.length c0) from rfl))|(go_at_call 23;refine (impl_within.calls a1 1 16 true _ A2.out).mono ?_;rintro e w' ⟨rfl,nd_,rfl⟩;replace HB := Aside0.mk (pw_below_drewN HB.out nd_);replace BK2 := Aside0.mk (blk_drewN BK2.out nd_);clear hx2;have hx2 := (blk_cell BK2.out 0).trans (show (#[Value.slice A0 l0.length c0] : Array Value)[0]? = some (.slice A0 l0.length c0) from rfl))|((with_reducible refine gate_dst (N := 7) rfl ?_);refine ZE 7 #[.slice none 0 0] 32 ?_;intro g7 hg w6 hbox hb;have n0_ := Aside0.mk (blk_below BK2.out hb);have NE27 := Aside0.mk (show g2 ≠ g7 from by have h_ := blk_lt BK2.out;rw [hg];exact Nat.ne_of_lt h_);have GE7 := Aside0.mk (show w.heap.size ≤ g7 from by rw [hg];exact below_size HB.out);have n1_ := Aside0.mk (below_step HB.out hb);have BK7 := Aside0.mk hbox;clear HB BK2 hx2 hb hg hbox;have HB := n1_;have BK2 := n0_;clear n0_ n1_))
   try simp only [Act.put,zuA,zuB,zuC]
   go_loopg [6] k (fun kq v6 w' => ∃ (out : List (List Int)) (t : List Int) (ut : Value),Aside0 (impl_LessonsOf.l0 kq l0 a1 out t = some (r1,r2)) ∧ Aside0 (kq ≤ k) ∧ Aside0 (w'.heap[g2]? = some (.cells #[.slice A0 l0.length c0] 24 (0,0))) ∧ Aside0 (w'.heap[g7]? = some (.cells #[ut] 32 (0,0))) ∧ Aside0 (Kd.R (Kd.int .i64) 3 w' w.heap.size (fun k_ => k_ ≠ g2 ∧ k_ ≠ g7) ut t) ∧ Aside0 (Kd.S (Kd.slice 3 (Kd.int .i64)) 32 w' w.heap.size (fun k_ => (k_ ≠ g2 ∧ k_ ≠ g7) ∧ some k_ ≠ (ut : Value).ownBlock) v6 out) ∧ Aside0 (Below w.heap.size w w'))
   case atStart => exact ⟨[],[],.slice none 0 0,H',⟨Nat.le_refl _⟩,BK2,BK7,⟨Kd.R_nil _ _ _ _ _⟩,⟨Kd.S_nil _ _ _ _ _⟩,HB⟩
   case round =>
    clear H' HB BK2 BK7
    obtain ⟨out,t,ut,HA,HK1,BK2,BK7,HRT,HS,HB⟩ := hrel
    obtain ⟨At,ct,rfl⟩ := Kd.R_slice HRT.out
    have hx2 := (blk_cell BK2.out 0).trans (show (#[Value.slice A0 l0.length c0] : Array Value)[0]? = some (.slice A0 l0.length c0) from rfl)
    have hx7 := (blk_cell BK7.out 0).trans (show (#[Value.slice At t.length ct] : Array Value)[0]? = some (.slice At t.length ct) from rfl)
    cases gk with
    | zero => exact absurd HA.out (by simp [impl_LessonsOf.l0])
    | succ k1 =>
     have HO := HA.out
     clear HA
     rw [impl_LessonsOf.l0] at HO
     by_cases c1 : (t.length : Int) < (l0.length : Int);rotate_left
     ·rw [if_neg c1] at HO
      have c1b0 : decide ((t.length : Int) < (l0.length : Int)) = false := decide_eq_false c1
      have c1b1 : decide (t.length < l0.length) = false := decide_eq_false (by omega)
      have c1b2 : (t.length < l0.length) = False := eq_false (by omega)
      clear c1
      simp only [Option.some.injEq,Prod.mk.injEq] at HO
      obtain ⟨rfl,rfl⟩ := HO
      go_wp2
      go_ret2
      exact ⟨_,by first|rfl|(simp;done),Kd.S_mono HS.out (fun _ _ => trivial),HB.out⟩


     rw [if_pos c1] at HO
     have c1b0 : decide ((t.length : Int) < (l0.length : Int)) = true := decide_eq_true c1
     have c1b1 : decide (t.length < l0.length) = true := decide_eq_true (by omega)
     have c1b2 : (t.length < l0.length) = True := eq_true (by omega)
     clear c1
     obtain ⟨Lr,A5,HO⟩ := Option.bind_eq_some_iff.mp HO
     replace A5 := Aside0.mk A5
     go_wp2_with (first|((with_reducible refine gate_dst (N := 8) rfl ?_);refine ZE 8 #[.slice none 0 0] 32 ?_;intro g8 hg w8 hbox hb;obtain ⟨W1,hg1_,hb1_,k2_,k7_,hrt_,hs_,hbw_⟩ : ∃ W1 : World,g8 = W1.heap.size ∧ Below W1.heap.size W1 w8 ∧ W1.heap[g2]? = some (.cells #[.slice A0 l0.length c0] 24 (0,0)) ∧ W1.heap[g7]? = some (.cells #[.slice At t.length ct] 32 (0,0)) ∧ Kd.R (Kd.int .i64) 3 W1 w.heap.size (fun k_ => k_ ≠ g2 ∧ k_ ≠ g7) (.slice At t.length ct) t ∧ Kd.S (Kd.slice 3 (Kd.int .i64)) 32 W1 w.heap.size (fun k_ => (k_ ≠ g2 ∧ k_ ≠ g7) ∧ some k_ ≠ (.slice At t.length ct : Value).ownBlock) u6 out ∧ Below w.heap.size w W1 := ⟨_,hg,hb,BK2.out,BK7.out,HRT.out,HS.out,HB.out⟩;have BK8 := Aside0.mk hbox;clear hg hb hbox BK2 BK7 HRT HS HB hx2 hx7;have HG8 := Aside0.mk hg1_;have HB1 := Aside0.mk hb1_;have BK2 := Aside0.mk k2_;have BK7 := Aside0.mk k7_;have HRT := Aside0.mk hrt_;have HS := Aside0.mk hs_;have HB := Aside0.mk hbw_;clear hg1_ hb1_ k2_ k7_ hrt_ hs_ hbw_))
     try simp only [Act.put,zuA,zuB,zuC]
     go_loopg [] k1 (fun kq w' => ∃ (L : List Int) (y8 : Value),Aside0 (impl_LessonsOf.l1 kq l0 a1 t L = some Lr) ∧ Aside0 (kq ≤ k1) ∧ Aside0 (w'.heap[g8]? = some (.cells #[y8] 32 (0,0))) ∧ Aside0 (Kd.R (Kd.int .i64) 3 w' W1.heap.size (fun k_ => k_ ≠ g8) y8 L) ∧ Aside0 (Below W1.heap.size W1 w'))
     case atStart => exact ⟨[],.slice none 0 0,A5,⟨Nat.le_refl _⟩,BK8,⟨Kd.R_nil _ _ _ _ _⟩,HB1⟩
     case round =>
      clear A5 BK8 HB1
      obtain ⟨L,y8,HA2,HK2,BK8,HRL,HB1⟩ := hrel
      obtain ⟨AL,cL,rfl⟩ := Kd.R_slice HRL.out
      have hx2 := (blk_cell (blk_below BK2.out HB1.out) 0).trans (show (#[Value.slice A0 l0.length c0] : Array Value)[0]? = some (.slice A0 l0.length c0) from rfl)
      have hx7 := (blk_cell (blk_below BK7.out HB1.out) 0).trans (show (#[Value.slice At t.length ct] : Array Value)[0]? = some (.slice At t.length ct) from rfl)
      have hx8 := (blk_cell BK8.out 0).trans (show (#[Value.slice AL L.length cL] : Array Value)[0]? = some (.slice AL L.length cL) from rfl)
      cases gk with
      | zero => exact absurd HA2.out (by simp [impl_LessonsOf.l1])
      | succ k2 =>
       have H := HA2.out
       clear HA2
       rw [impl_LessonsOf.l1] at H
       by_cases c2 : (L.length : Int) < a1;rotate_left
       ·rw [if_neg c2] at H
        have c2b0 : decide ((L.length : Int) < a1) = false := decide_eq_false c2
        obtain rfl := Option.some.inj H
        clear c2 H
        have HE := Aside0.mk (Eq.refl (0 : Nat))
        have e4 := HE.out
        by_cases c4 : (L.length : Int) = 0
        ·rw [if_pos c4] at HO
         simp only [Option.some.injEq,Prod.mk.injEq] at HO
         obtain ⟨rfl,rfl⟩ := HO
         have c4b0 : ((L.length : Int) == 0) = true := beq_iff_eq.mpr c4
         clear c4 e4 HE
         go_wp2
         go_ret2
         exact ⟨.slice none 0 0,by first|rfl|(simp;done),Kd.S_nil _ _ _ _ _,below_step HB.out HB1.out⟩
        rw [if_neg c4] at HO
        have c4b0 : ((L.length : Int) == 0) = false := beq_eq_false_iff_ne.mpr c4
        clear c4 e4 HE
        obtain ⟨M,A7,HO⟩ := Option.bind_eq_some_iff.mp HO
        replace A7 := Aside0.mk A7
        by_cases c5 : out.length < 4398046511104
        case neg => rw [if_neg c5] at HO;cases HO
        rw [if_pos c5] at HO
        by_cases c6 : t.length + M.length < 17592186044416
        case neg => rw [if_neg c6] at HO;cases HO
        rw [if_pos c6] at HO
        have LM1 := Aside0.mk c5
        have LM2 := Aside0.mk c6
        have HO' := Aside0.mk HO
        clear HO c5 c6
        go_wp2_with (first|(go_at_call 28;refine (slices_Sort_int.calls (fun k_ => some k_ = (.slice AL L.length cL : Value).ownBlock) (.slice AL L.length cL) L M W1 _ HB1.out (Kd.R_tight rfl HRL.out) A7.out).mono ?_;rintro e w11 ⟨rfl,hy0,hb,hkp⟩;have n0_ := Aside0.mk (Kd.R_reok (ok := fun k_ => k_ ≠ g8) rfl hy0 (fun k_ e_ => HRL.out.1 k_ e_));have n1_ := Aside0.mk (blk_kept BK8.out hkp (Kd.R_away HRL.out (fun _ h_ => h_)));clear BK8 HRL HB1 hx2 hx7 hx8;have HRM := n0_;have BK8 := n1_;have HB1 := Aside0.mk hb;clear n0_ n1_ hy0 hb hkp;have hx7 := (blk_cell (blk_below BK7.out HB1.out) 0).trans (show (#[Value.slice At t.length ct] : Array Value)[0]? = some (.slice At t.length ct) from rfl);have hx8 := (blk_cell BK8.out 0).trans (show (#[Value.slice AL L.length cL] : Array Value)[0]? = some (.slice AL L.length cL) from rfl))|((with_reducible refine gate_builtin (b := .append) (xs := #[.tmp 41,.tmp 43]) rfl ?_);at_builtin;refine Kd.S_append (Kd.slice 3 (Kd.int .i64)) (w0 := w) w.heap.size rfl (.tmp 41) (.tmp 43) 27 32 (.slice none 0 0) 24 rfl Try.underlying27 info32 rfl (by decide) (by omega) u6 out M [.slice AL L.length cL] (fun k_ => (k_ ≠ g2 ∧ k_ ≠ g7) ∧ some k_ ≠ (.slice At t.length ct : Value).ownBlock) (fun k_ => some k_ = (.slice AL L.length cL : Value).ownBlock) rfl rfl ?aP ?aK ?aF ?aO ?aB ?aS ?aL ?_;(case aP => exact Kd.M_row (Kd.R_lower (Kd.R_tight rfl HRM.out) (below_size HB.out)));(case aK => exact (fun k_ hk => (by have h1 := Kd.R_base HRM.out k_ hk.symm;have h2 := blk_lt BK2.out;have h3 := blk_lt BK7.out;exact ⟨⟨⟨by omega,by omega⟩,fun e_ => by have h4 := Kd.R_lt HRT.out k_ e_.symm;omega⟩,fun e_ => by have h4 := Kd.S_lt HS.out k_ e_.symm;omega⟩)));(case aF => exact (fun k_ hk => (by have h1 := below_size HB1.out;have h2 := blk_lt BK2.out;have h3 := blk_lt BK7.out;exact ⟨⟨by omega,by omega⟩,fun e_ => by have h4 := Kd.R_lt HRT.out k_ e_.symm;omega⟩)));(case aO => exact Kd.S_below (Kd.S_mono (Kd.S_bound HS.out) (fun k_ hk => ⟨hk.1,fun e_ => by have h1 := Kd.R_base HRM.out k_ e_.symm;have h2 := hk.2.2.1;omega⟩)) HB1.out);(case aB => exact below_step HB.out HB1.out);(case aS => exact below_size (below_step HB.out HB1.out));(case aL => have := LM1.out;omega);intro v12 w12 ho hb hg hat;have n0_ := Aside0.mk (blk_grown BK8.out hg (fun e_ => by have h4 := Kd.S_lt HS.out g8 e_.symm;have h5 := HG8.out;omega));have n1_ := Aside0.mk (blk_grown (blk_below BK7.out HB1.out) hg (Kd.S_away HS.out (fun _ h_ => h_.1.2)));have n2_ := Aside0.mk (blk_grown (blk_below BK2.out HB1.out) hg (Kd.S_away HS.out (fun _ h_ => h_.1.1)));have n3_ := Aside0.mk (Kd.R_over' (Kd.R_below HRT.out HB1.out) (Kd.S_typed (Kd.S_below HS.out HB1.out)) (by decide) hg);have n4_ := Aside0.mk (Kd.R_over' HRM.out (Kd.S_typed (Kd.S_below HS.out HB1.out)) (by decide) hg);clear BK8 BK7 BK2 HRT HRM HS HB HB1 hx7 hx8;have BK8 := n0_;have BK7 := n1_;have BK2 := n2_;have HRT := n3_;have HRM := n4_;have HS := Aside0.mk ho;have HB := Aside0.mk hb;clear n0_ n1_ n2_ n3_ n4_ ho hb hg hat;have hx8 := (blk_cell BK8.out 0).trans (show (#[Value.slice AL L.length cL] : Array Value)[0]? = some (.slice AL L.length cL) from rfl);have hx7 := (blk_cell BK7.out 0).trans (show (#[Value.slice At t.length ct] : Array Value)[0]? = some (.slice At t.length ct) from rfl))|((with_reducible refine gate_builtin (b := .append) (xs := #[.tmp 45,.tmp 46]) rfl ?_);at_builtin;refine Kd.R_append_rows (Kd.int .i64) (Rr := fun x_ cs_ => cs_ = [Value.int .i64 x_]) (w0 := w) w.heap.size rfl (.tmp 45) (.tmp 46) 32 3 (.int .i64 0) 8 rfl Try.underlying32 info3 rfl (by decide) (by omega) (.slice At t.length ct) t M AL L.length cL (fun k_ => k_ ≠ g2 ∧ k_ ≠ g7) (fun _ => False) rfl rfl ?aO ?aR ?aK (fun _ hk => hk.elim) ?aF ?aB ?aS ?aL ?_;(case aR => obtain ⟨e1,e2,e3⟩ := Kd.R_reads' HRM.out;rw [← e1] at e3;exact e3);(case aK => exact fun _ _ hk => hk);(case aB => exact HB.out);(case aF => exact (fun k_ hk => ⟨Kd.freshB BK2.out k_ hk,Kd.freshB BK7.out k_ hk⟩));(case aO => exact HRT.out);(case aS => exact below_size HB.out);(case aL => have := LM2.out;have e1 := (Kd.R_reads' HRM.out).1;omega);intro v13 w13 ho hb hg hat;obtain ⟨A13,n13,c13,rfl⟩ : ∃ (A_ : Option Addr) (n_ c_ : Nat),v13 = Value.slice A_ n_ c_ := (by obtain ⟨A_,c_,e_⟩ := Kd.R_slice ho;exact ⟨A_,_,c_,e_⟩);have n1_ := Aside0.mk (blk_grown BK7.out hg (Kd.R_away HRT.out (fun _ h_ => h_.2)));have n2_ := Aside0.mk (blk_grown BK2.out hg (Kd.R_away HRT.out (fun _ h_ => h_.1)));have n3_ := Aside0.mk (Kd.S_after (ok := fun k_ => k_ ≠ g2 ∧ k_ ≠ g7) HS.out hg hat);clear BK8 BK7 BK2 HRT HRM HS HB hx7 hx8;have BK7 := n1_;have BK2 := n2_;have HS := n3_;have HRT := Aside0.mk ho;have HB := Aside0.mk hb;clear n1_ n2_ n3_ ho hb hg hat;have hz7 := (blk_cell BK7.out 0).trans (show (#[Value.slice At t.length ct] : Array Value)[0]? = some (.slice At t.length ct) from rfl);have hf7 := blk_frozen BK7.out 0))
        go_roundg k1
        case measure => have := HK1.out;omega
        case rel => exact ⟨out ++ [M],t ++ M,_,HO',⟨by have := HK1.out;omega⟩,⟨blk_far BK2.out NE27.out _⟩,⟨blk_put BK7.out 0 _ rfl⟩,⟨Kd.R_far HRT.out (fun _ hk => hk.2) _⟩,⟨Kd.S_far HS.out (fun _ hk => hk.1.2) _⟩,⟨below_set HB.out GE7.out⟩⟩
       rw [if_pos c2] at H
       have c2b0 : decide ((L.length : Int) < a1) = true := decide_eq_true c2
       clear c2
       obtain ⟨n,A6,H⟩ := Option.bind_eq_some_iff.mp H
       replace A6 := Aside0.mk A6
       by_cases c3 : n < 0;rotate_left
       ·rw [if_neg c3] at H
        have c3b0 : decide (n < 0) = false := decide_eq_false c3
        clear c3
        by_cases c7 : L.length < 17592186044416
        case neg => rw [if_neg c7] at H;cases H
        rw [if_pos c7] at H
        have LM := Aside0.mk c7
        have H' := Aside0.mk H
        clear H c7 HO
        go_wp2_with (first|(go_at_call 24;refine (impl_mostUsed.calls (impl_LessonsOf.p k2 l0 t L) 25 #[.pointer (some ⟨g7,0,none⟩),.pointer (some ⟨g8,0,none⟩),.pointer (some ⟨g2,0,none⟩)] eg k2 _ _ l0 n _ ?hp_ (Kd.C_below HR0.out (below_step HB.out HB1.out)) HC0.out A6.out).mono ?_;(case hp_ => intro W x b hW px qx hpx;exact impl_LessonsOf.lit k2 A0 c0 l0 At ct t AL cL L x b g7 g8 g2 W (Kd.C_below HR0.out (below_step (below_step HB.out HB1.out) hW)) HC0.out (Kd.C_below (Kd.R_reads' HRT.out).2.2 (below_step HB1.out hW)) (Kd.R_reads' HRT.out).2.1 (Kd.C_below (Kd.R_reads' HRL.out).2.2 hW) (Kd.R_reads' HRL.out).2.1 ((hW.cell (World.block_lt_of_cell? _ _ hx7)).trans hx7) ((hW.cell (World.block_lt_of_cell? _ _ hx8)).trans hx8) ((hW.cell (World.block_lt_of_cell? _ _ hx2)).trans hx2) hpx);rintro e w9 ⟨rfl,hb⟩;have n0_ := Aside0.mk (blk_below BK8.out hb);have n1_ := Aside0.mk (Kd.R_below HRL.out hb);have n2_ := Aside0.mk (below_step HB1.out hb);clear BK8 HRL HB1 hx2 hx7 hx8;have BK8 := n0_;have HRL := n1_;have HB1 := n2_;clear n0_ n1_ n2_ hb;have hx2 := (blk_cell (blk_below BK2.out HB1.out) 0).trans (show (#[Value.slice A0 l0.length c0] : Array Value)[0]? = some (.slice A0 l0.length c0) from rfl);have hx7 := (blk_cell (blk_below BK7.out HB1.out) 0).trans (show (#[Value.slice At t.length ct] : Array Value)[0]? = some (.slice At t.length ct) from rfl);have hx8 := (blk_cell BK8.out 0).trans (show (#[Value.slice AL L.length cL] : Array Value)[0]? = some (.slice AL L.length cL) from rfl))|((with_reducible refine gate_builtin (b := .append) (xs := #[.tmp 32,.tmp 34]) rfl ?_);at_builtin;refine Kd.R_append (Kd.int .i64) (w0 := W1) W1.heap.size rfl (.tmp 32) (.tmp 34) 32 3 (.int .i64 0) 8 rfl Try.underlying32 info3 rfl (by decide) (by omega) (.slice AL L.length cL) L n [.int .i64 n] (fun k_ => k_ ≠ g8) (fun _ => False) rfl rfl ?aP (fun _ hk => hk.elim) ?aF ?aO ?aB ?aS ?aL ?_;(case aP => exact rfl);(case aB => exact HB1.out);(case aF => exact (fun k_ hk => Kd.freshB BK8.out k_ hk));(case aO => exact HRL.out);(case aS => exact below_size HB1.out);(case aL => have := LM.out;omega);intro v10 w10 ho hb hg hat;obtain ⟨A10,n10,c10,rfl⟩ : ∃ (A_ : Option Addr) (n_ c_ : Nat),v10 = Value.slice A_ n_ c_ := (by obtain ⟨A_,c_,e_⟩ := Kd.R_slice ho;exact ⟨A_,_,c_,e_⟩);have n0_ := Aside0.mk (blk_grown BK8.out hg (Kd.R_away HRL.out (fun _ h_ => h_)));clear BK8 HRL HB1 hx2 hx7 hx8;have BK8 := n0_;have HRL := Aside0.mk ho;have HB1 := Aside0.mk hb;clear n0_ ho hb hg hat;have hz8 := (blk_cell BK8.out 0).trans (show (#[Value.slice AL L.length cL] : Array Value)[0]? = some (.slice AL L.length cL) from rfl);have hf8 := blk_frozen BK8.out 0))
        go_roundg k2
        case measure => have := HK1.out;have := HK2.out;omega
        case rel => exact ⟨L ++ [n],_,H',⟨by have := HK2.out;omega⟩,⟨blk_put BK8.out 0 _ rfl⟩,⟨Kd.R_far HRL.out (fun _ hk => hk) _⟩,⟨below_set HB1.out (Nat.le_of_eq HG8.out.symm)⟩⟩
       rw [if_pos c3] at H
       have c3b0 : decide (n < 0) = true := decide_eq_true c3
       obtain rfl := Option.some.inj H
       clear c3 H
       have HE := Aside0.mk (Eq.refl (0 : Nat))
       have e4 := HE.out
       by_cases c4 : (L.length : Int) = 0
       ·rw [if_pos c4] at HO
        simp only [Option.some.injEq,Prod.mk.injEq] at HO
        obtain ⟨rfl,rfl⟩ := HO
        have c4b0 : ((L.length : Int) == 0) = true := beq_iff_eq.mpr c4
        clear c4 e4 HE
        go_wp2_with (first|(go_at_call 24;refine (impl_mostUsed.calls (impl_LessonsOf.p k2 l0 t L) 25 #[.pointer (some ⟨g7,0,none⟩),.pointer (some ⟨g8,0,none⟩),.pointer (some ⟨g2,0,none⟩)] eg k2 _ _ l0 n _ ?hp_ (Kd.C_below HR0.out (below_step HB.out HB1.out)) HC0.out A6.out).mono ?_;(case hp_ => intro W x b hW px qx hpx;exact impl_LessonsOf.lit k2 A0 c0 l0 At ct t AL cL L x b g7 g8 g2 W (Kd.C_below HR0.out (below_step (below_step HB.out HB1.out) hW)) HC0.out (Kd.C_below (Kd.R_reads' HRT.out).2.2 (below_step HB1.out hW)) (Kd.R_reads' HRT.out).2.1 (Kd.C_below (Kd.R_reads' HRL.out).2.2 hW) (Kd.R_reads' HRL.out).2.1 ((hW.cell (World.block_lt_of_cell? _ _ hx7)).trans hx7) ((hW.cell (World.block_lt_of_cell? _ _ hx8)).trans hx8) ((hW.cell (World.block_lt_of_cell? _ _ hx2)).trans hx2) hpx);rintro e w9 ⟨rfl,hb⟩;have n0_ := Aside0.mk (blk_below BK8.out hb);have n1_ := Aside0.mk (Kd.R_below HRL.out hb);have n2_ := Aside0.mk (below_step HB1.out hb);clear BK8 HRL HB1 hx2 hx7 hx8;have BK8 := n0_;have HRL := n1_;have HB1 := n2_;clear n0_ n1_ n2_ hb;have hx2 := (blk_cell (blk_below BK2.out HB1.out) 0).trans (show (#[Value.slice A0 l0.length c0] : Array Value)[0]? = some (.slice A0 l0.length c0) from rfl);have hx7 := (blk_cell (blk_below BK7.out HB1.out) 0).trans (show (#[Value.slice At t.length ct] : Array Value)[0]? = some (.slice At t.length ct) from rfl);have hx8 := (blk_cell BK8.out 0).trans (show (#[Value.slice AL L.length cL] : Array Value)[0]? = some (.slice AL L.length cL) from rfl)))
        go_ret2
        exact ⟨.slice none 0 0,by first|rfl|(simp;done),Kd.S_nil _ _ _ _ _,below_step HB.out HB1.out⟩
       rw [if_neg c4] at HO
       have c4b0 : ((L.length : Int) == 0) = false := beq_eq_false_iff_ne.mpr c4
       clear c4 e4 HE
       obtain ⟨M,A7,HO⟩ := Option.bind_eq_some_iff.mp HO
       replace A7 := Aside0.mk A7
       by_cases c5 : out.length < 4398046511104
       case neg => rw [if_neg c5] at HO;cases HO
       rw [if_pos c5] at HO
       by_cases c6 : t.length + M.length < 17592186044416
       case neg => rw [if_neg c6] at HO;cases HO
       rw [if_pos c6] at HO
       have LM1 := Aside0.mk c5
       have LM2 := Aside0.mk c6
       have HO' := Aside0.mk HO
       clear HO c5 c6
       go_wp2_with (first|(go_at_call 24;refine (impl_mostUsed.calls (impl_LessonsOf.p k2 l0 t L) 25 #[.pointer (some ⟨g7,0,none⟩),.pointer (some ⟨g8,0,none⟩),.pointer (some ⟨g2,0,none⟩)] eg k2 _ _ l0 n _ ?hp_ (Kd.C_below HR0.out (below_step HB.out HB1.out)) HC0.out A6.out).mono ?_;(case hp_ => intro W x b hW px qx hpx;exact impl_LessonsOf.lit k2 A0 c0 l0 At ct t AL cL L x b g7 g8 g2 W (Kd.C_below HR0.out (below_step (below_step HB.out HB1.out) hW)) HC0.out (Kd.C_below (Kd.R_reads' HRT.out).2.2 (below_step HB1.out hW)) (Kd.R_reads' HRT.out).2.1 (Kd.C_below (Kd.R_reads' HRL.out).2.2 hW) (Kd.R_reads' HRL.out).2.1 ((hW.cell (World.block_lt_of_cell? _ _ hx7)).trans hx7) ((hW.cell (World.block_lt_of_cell? _ _ hx8)).trans hx8) ((hW.cell (World.block_lt_of_cell? _ _ hx2)).trans hx2) hpx);rintro e w9 ⟨rfl,hb⟩;have n0_ := Aside0.mk (blk_below BK8.out hb);have n1_ := Aside0.mk (Kd.R_below HRL.out hb);have n2_ := Aside0.mk (below_step HB1.out hb);clear BK8 HRL HB1 hx2 hx7 hx8;have BK8 := n0_;have HRL := n1_;have HB1 := n2_;clear n0_ n1_ n2_ hb;have hx2 := (blk_cell (blk_below BK2.out HB1.out) 0).trans (show (#[Value.slice A0 l0.length c0] : Array Value)[0]? = some (.slice A0 l0.length c0) from rfl);have hx7 := (blk_cell (blk_below BK7.out HB1.out) 0).trans (show (#[Value.slice At t.length ct] : Array Value)[0]? = some (.slice At t.length ct) from rfl);have hx8 := (blk_cell BK8.out 0).trans (show (#[Value.slice AL L.length cL] : Array Value)[0]? = some (.slice AL L.length cL) from rfl))|(go_at_call 28;refine (slices_Sort_int.calls (fun k_ => some k_ = (.slice AL L.length cL : Value).ownBlock) (.slice AL L.length cL) L M W1 _ HB1.out (Kd.R_tight rfl HRL.out) A7.out).mono ?_;rintro e w11 ⟨rfl,hy0,hb,hkp⟩;have n0_ := Aside0.mk (Kd.R_reok (ok := fun k_ => k_ ≠ g8) rfl hy0 (fun k_ e_ => HRL.out.1 k_ e_));have n1_ := Aside0.mk (blk_kept BK8.out hkp (Kd.R_away HRL.out (fun _ h_ => h_)));clear BK8 HRL HB1 hx2 hx7 hx8;have HRM := n0_;have BK8 := n1_;have HB1 := Aside0.mk hb;clear n0_ n1_ hy0 hb hkp;have hx7 := (blk_cell (blk_below BK7.out HB1.out) 0).trans (show (#[Value.slice At t.length ct] : Array Value)[0]? = some (.slice At t.length ct) from rfl);have hx8 := (blk_cell BK8.out 0).trans (show (#[Value.slice AL L.length cL] : Array Value)[0]? = some (.slice AL L.length cL) from rfl))|((with_reducible refine gate_builtin (b := .append) (xs := #[.tmp 41,.tmp 43]) rfl ?_);at_builtin;refine Kd.S_append (Kd.slice 3 (Kd.int .i64)) (w0 := w) w.heap.size rfl (.tmp 41) (.tmp 43) 27 32 (.slice none 0 0) 24 rfl Try.underlying27 info32 rfl (by decide) (by omega) u6 out M [.slice AL L.length cL] (fun k_ => (k_ ≠ g2 ∧ k_ ≠ g7) ∧ some k_ ≠ (.slice At t.length ct : Value).ownBlock) (fun k_ => some k_ = (.slice AL L.length cL : Value).ownBlock) rfl rfl ?aP ?aK ?aF ?aO ?aB ?aS ?aL ?_;(case aP => exact Kd.M_row (Kd.R_lower (Kd.R_tight rfl HRM.out) (below_size HB.out)));(case aK => exact (fun k_ hk => (by have h1 := Kd.R_base HRM.out k_ hk.symm;have h2 := blk_lt BK2.out;have h3 := blk_lt BK7.out;exact ⟨⟨⟨by omega,by omega⟩,fun e_ => by have h4 := Kd.R_lt HRT.out k_ e_.symm;omega⟩,fun e_ => by have h4 := Kd.S_lt HS.out k_ e_.symm;omega⟩)));(case aF => exact (fun k_ hk => (by have h1 := below_size HB1.out;have h2 := blk_lt BK2.out;have h3 := blk_lt BK7.out;exact ⟨⟨by omega,by omega⟩,fun e_ => by have h4 := Kd.R_lt HRT.out k_ e_.symm;omega⟩)));(case aO => exact Kd.S_below (Kd.S_mono (Kd.S_bound HS.out) (fun k_ hk => ⟨hk.1,fun e_ => by have h1 := Kd.R_base HRM.out k_ e_.symm;have h2 := hk.2.2.1;omega⟩)) HB1.out);(case aB => exact below_step HB.out HB1.out);(case aS => exact below_size (below_step HB.out HB1.out));(case aL => have := LM1.out;omega);intro v12 w12 ho hb hg hat;have n0_ := Aside0.mk (blk_grown BK8.out hg (fun e_ => by have h4 := Kd.S_lt HS.out g8 e_.symm;have h5 := HG8.out;omega));have n1_ := Aside0.mk (blk_grown (blk_below BK7.out HB1.out) hg (Kd.S_away HS.out (fun _ h_ => h_.1.2)));have n2_ := Aside0.mk (blk_grown (blk_below BK2.out HB1.out) hg (Kd.S_away HS.out (fun _ h_ => h_.1.1)));have n3_ := Aside0.mk (Kd.R_over' (Kd.R_below HRT.out HB1.out) (Kd.S_typed (Kd.S_below HS.out HB1.out)) (by decide) hg);have n4_ := Aside0.mk (Kd.R_over' HRM.out (Kd.S_typed (Kd.S_below HS.out HB1.out)) (by decide) hg);clear BK8 BK7 BK2 HRT HRM HS HB HB1 hx7 hx8;have BK8 := n0_;have BK7 := n1_;have BK2 := n2_;have HRT := n3_;have HRM := n4_;have HS := Aside0.mk ho;have HB := Aside0.mk hb;clear n0_ n1_ n2_ n3_ n4_ ho hb hg hat;have hx8 := (blk_cell BK8.out 0).trans (show (#[Value.slice AL L.length cL] : Array Value)[0]? = some (.slice AL L.length cL) from rfl);have hx7 := (blk_cell BK7.out 0).trans (show (#[Value.slice At t.length ct] : Array Value)[0]? = some (.slice At t.length ct) from rfl))|((with_reducible refine gate_builtin (b := .append) (xs := #[.tmp 45,.tmp 46]) rfl ?_);at_builtin;refine Kd.R_append_rows (Kd.int .i64) (Rr := fun x_ cs_ => cs_ = [Value.int .i64 x_]) (w0 := w) w.heap.size rfl (.tmp 45) (.tmp 46) 32 3 (.int .i64 0) 8 rfl Try.underlying32 info3 rfl (by decide) (by omega) (.slice At t.length ct) t M AL L.length cL (fun k_ => k_ ≠ g2 ∧ k_ ≠ g7) (fun _ => False) rfl rfl ?aO ?aR ?aK (fun _ hk => hk.elim) ?aF ?aB ?aS ?aL ?_;(case aR => obtain ⟨e1,e2,e3⟩ := Kd.R_reads' HRM.out;rw [← e1] at e3;exact e3);(case aK => exact fun _ _ hk => hk);(case aB => exact HB.out);(case aF => exact (fun k_ hk => ⟨Kd.freshB BK2.out k_ hk,Kd.freshB BK7.out k_ hk⟩));(case aO => exact HRT.out);(case aS => exact below_size HB.out);(case aL => have := LM2.out;have e1 := (Kd.R_reads' HRM.out).1;omega);intro v13 w13 ho hb hg hat;obtain ⟨A13,n13,c13,rfl⟩ : ∃ (A_ : Option Addr) (n_ c_ : Nat),v13 = Value.slice A_ n_ c_ := (by obtain ⟨A_,c_,e_⟩ := Kd.R_slice ho;exact ⟨A_,_,c_,e_⟩);have n1_ := Aside0.mk (blk_grown BK7.out hg (Kd.R_away HRT.out (fun _ h_ => h_.2)));have n2_ := Aside0.mk (blk_grown BK2.out hg (Kd.R_away HRT.out (fun _ h_ => h_.1)));have n3_ := Aside0.mk (Kd.S_after (ok := fun k_ => k_ ≠ g2 ∧ k_ ≠ g7) HS.out hg hat);clear BK8 BK7 BK2 HRT HRM HS HB hx7 hx8;have BK7 := n1_;have BK2 := n2_;have HS := n3_;have HRT := Aside0.mk ho;have HB := Aside0.mk hb;clear n1_ n2_ n3_ ho hb hg hat;have hz7 := (blk_cell BK7.out 0).trans (show (#[Value.slice At t.length ct] : Array Value)[0]? = some (.slice At t.length ct) from rfl);have hf7 := blk_frozen BK7.out 0))
       go_roundg k1
       case measure => have := HK1.out;omega
       case rel => exact ⟨out ++ [M],t ++ M,_,HO',⟨by have := HK1.out;omega⟩,⟨blk_far BK2.out NE27.out _⟩,⟨blk_put BK7.out 0 _ rfl⟩,⟨Kd.R_far HRT.out (fun _ hk => hk.2) _⟩,⟨Kd.S_far HS.out (fun _ hk => hk.1.2) _⟩,⟨below_set HB.out GE7.out⟩⟩
end Go.Proofs.Ytgnijnlgbelifaa.Q
