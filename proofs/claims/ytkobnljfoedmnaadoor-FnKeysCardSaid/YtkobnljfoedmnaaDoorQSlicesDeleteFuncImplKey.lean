import Derived.Test.YtkobnljfoedmnaaDoorQ0
import Derived.Test.YtkobnljfoedmnaaDoorGUp
import Derived.Test.YtkobnljfoedmnaaDoorGDel
import Derived.Ground.SlgfProg
namespace Go.Proofs.YtkobnljfoedmnaaDoor.Q
open Go.RowKit Go.Proofs.YtkobnljfoedmnaaDoorW.PrintWords Go.Proofs.YtkobnljfoedmnaaDoorW.PrintLast Go.Proofs.YtkobnljfoedmnaaDoorW.PrintMore Go.Proofs.YtkobnljfoedmnaaDoorW.GCall
attribute [local go_sem] max2_int min2_int max_two min_two max_three min_three max_four min_four
set_option linter.unusedVariables false
set_option linter.unusedSimpArgs false
def slices_DeleteFunc_impl_Key.f (l0 : List S25) (a1 : Int) : Option (List S25) := some (l0.filter fun x => !(decide (x.f0 = a1)))
set_option maxHeartbeats 1000000
end Go.Proofs.YtkobnljfoedmnaaDoor.Q
namespace Go.Proofs
open Go.Shelf
shelf_lay_g SlLaysH0.n6 Slgf 6 at Tryd 91 as Tryd.laysID49
end Go.Proofs
namespace Go.Proofs.YtkobnljfoedmnaaDoor.Q
open Go.RowKit Go.Lib Go.Proofs.YtkobnljfoedmnaaDoorW.PrintWords Go.Proofs.YtkobnljfoedmnaaDoorW.PrintLast Go.Proofs.YtkobnljfoedmnaaDoorW.PrintMore Go.Proofs.YtkobnljfoedmnaaDoorW Go.Proofs.YtkobnljfoedmnaaDoor.Q Go.Proofs.YtkobnljfoedmnaaDoorW.GCall
set_option linter.unusedVariables false
set_option linter.unusedSimpArgs false
set_option maxHeartbeats 4000000 in
set_option maxRecDepth 100000 in
theorem slices_DeleteFunc_impl_Key.gdel (f : S25 -> Bool) (g : Nat) (lb : Array Value) (eg : ∀ args w,(callFunc g args).run Tryd.prog w = .ok (.enter g args) w)
  (base : Nat) (ok : Nat -> Prop) (v : Value) (xs : List S25) (w : World) (hr : Kd.R k25 25 w base ok v xs)
  (hp : ∀ (W : World) (x : S25),w.grownBy W v.ownBlock -> x ∈ xs -> Calls Tryd.prog g (#[.agg #[.int .i64 x.f0,.int .i64 x.f1,.int .i64 x.f2,.int .i64 x.f3,.int .i64 x.f4]] ++ lb) W fun e w' => e = .returned (.bool (f x)) ∧ Below W.heap.size W w') :
  Calls Tryd.prog 49 #[v,.func (.func g) #[] lb] w fun ex w' => ∃ v',ex = .returned v' ∧ Kd.R k25 25 w' base ok v' (xs.filter fun x => !f x) ∧ v'.ownBlock = v.ownBlock ∧ w.grownBy w' v.ownBlock := by
 obtain ⟨A,c,hv,hc,hC⟩ := Kd.R_reads hr;have hbig : xs.length <= 9223372036854775807 := hC.2.1;have hIF := fun r h => GIdx.idx_agg Tryd.laysID49 k25 5 rfl (by decide) Tryd.isAgg25 Tryd.sizeOf25 (fun x => some (f x)) g lb eg A xs.length c xs w rfl hC r (fun W x cs b hb hx hK hpx => by
  obtain rfl := Option.some.inj hpx;obtain rfl := k25_open hK;refine (hp W x (GDel.grownBy_below _ hb) hx).mono ?_;rintro e w' ⟨he,hb'⟩;exact ⟨he,hb.trans (hb'.mono hb.size)⟩) h
 have hu := Tryd.underlying25;have hu2 := Tryd.underlying23;rcases GDel.idx_some (p := fun x => some (f x)) (f := f) (xs := xs) (fun _ _ => rfl) with ⟨e1,hfil⟩ | ⟨m,hm,e1,⟨xm,hxm,hfm⟩,hfil⟩
 ·-- no element is struck
  have hcon := ZA (hIF _ e1);rw [hfil];have HR := ZA hr;clear hIF hp hC hr hfil e1;subst hv;go_enter Tryd.func49,Tryd.ntmps49
  go_wp2_with (go_at_call 91;refine hcon.out.mono ?_;rintro e w' ⟨rfl,hb⟩)
  go_ret;exact ⟨_,rfl,Kd.R_below HR.out hb,rfl,GDel.grownBy_below _ hb⟩
 have hn0 : 0 < xs.length := by omega
 rcases GDel.R_size hr with ⟨h0,_⟩ | ⟨gb,cap,hv2,hgb,hgl,hlc,⟨cur,hcur,hcs⟩,hcm⟩
 ·rw [h0] at hn0;simp at hn0
 obtain ⟨n,hn⟩ : ∃ n,n = xs.length := ⟨_,rfl⟩;rw [hv2] at hv;injection hv with hA _ hc'
 subst hA;subst hc';have hcon := ZA (hIF _ e1);have HR0 := ZA hr;subst hv2;have HP : Aside0 (∀ (W : World) (x : S25),w.grownBy W (some gb) -> x ∈ xs -> Calls Tryd.prog g (#[.agg #[.int .i64 x.f0,.int .i64 x.f1,.int .i64 x.f2,.int .i64 x.f3,.int .i64 x.f4]] ++ lb) W fun e w' => e = .returned (.bool (f x)) ∧ Below W.heap.size W w') := ⟨hp⟩;have HM : Aside0 (∃ x,xs[m]? = some x ∧ f x = true) := ⟨⟨xm,hxm,hfm⟩⟩;have HF := ZA hfil;have hne1 : ((m : Int) == -1) = false := beq_eq_false_iff_ne.2 (by omega);have HN := ZA hn;have HX := ZA hm;have HGL := ZA hgl;rw [<- hn] at hcon hlc hbig hm ⊢;have HR : Aside0 (Kd.R k25 25 w base ok (.slice (some ⟨gb,0,none⟩) n cap) xs) := ⟨by rw [hn];exact HR0.out⟩;clear hIF hp hC hr hfil e1 hxm hfm HR0 hn hcur hcs hn0 hgl;show Calls Tryd.prog 49 #[.slice (some ⟨gb,0,none⟩) n cap,.func (.func g) #[] lb] w fun ex w' => ∃ v',ex = .returned v' ∧ Kd.R k25 25 w' base ok v' (xs.filter fun x => !f x) ∧ v'.ownBlock = some gb ∧ w.grownBy w' (some gb)
 go_enter Tryd.func49,Tryd.ntmps49
 go_wp2_with (go_at_call 91;refine hcon.out.mono ?_;rintro e w' ⟨rfl,hb0⟩)
 go_loopg [5,6,7] n (fun gg s5 s6 _ wr => ∃ (i j : Nat) (ys : List S25),s5 = .int .i64 i ∧ s6 = .int .i64 j ∧ j <= n ∧ n - j <= gg ∧ i < j ∧ Aside0 (Kd.R k25 25 wr base ok (.slice (some ⟨gb,0,none⟩) n cap) ys) ∧ Aside0 (w.grownBy wr (some gb)) ∧ Aside0 (ys.length = n) ∧ Aside0 (ys.drop j = xs.drop j) ∧ Aside0 (ys.take i = (xs.take j).filter fun x => !f x))
 case atStart =>
  refine ⟨m,m + 1,xs,rfl,by go_num,by omega,by omega,by omega,⟨Kd.R_below HR.out hb0⟩,⟨GDel.grownBy_below _ hb0⟩,⟨HN.out.symm⟩,⟨rfl⟩,⟨?_⟩⟩;obtain ⟨x,hx,hfx⟩ := HM.out;have hlt := (List.getElem?_eq_some_iff.1 hx).1;rw [List.take_succ_eq_append_getElem hlt,List.filter_append,HF.out,(List.getElem?_eq_some_iff.1 hx).2];simp [hfx]
 case round =>
  obtain ⟨i,j,ys,rfl,rfl,hjn,hgg,hij,HO,HG,HL,HD,HT⟩ := hrel;by_cases hlt : j < n;rotate_left
  ·obtain rfl : j = n := by omega
   have hltz : ¬ (j : Int) < (j : Int) := by omega
   obtain ⟨zs,hzs⟩ : ∃ zs,zs = (Builtin.zeroCells (Value.agg #[.int .i64 0,.int .i64 0,.int .i64 0,.int .i64 0,.int .i64 0]).cells (j - i)).toList := ⟨_,rfl⟩;have hz0 : (Value.agg #[.int .i64 0,.int .i64 0,.int .i64 0,.int .i64 0,.int .i64 0]).cells.size = 5 := rfl;have hzl : zs.length = (j - i) * 5 := by rw [hzs];simp [Builtin.zeroCells,hz0]
   have hz1 : ∀ u ∈ zs,u.oneCell' = true := by
    intro u hu;rw [hzs] at hu;simp only [Builtin.zeroCells,Array.toList_map,List.mem_map,Array.toList_range,List.mem_range] at hu;obtain ⟨q,hq,rfl⟩ := hu;have hlt2 : q % (Value.agg #[.int .i64 0,.int .i64 0,.int .i64 0,.int .i64 0,.int .i64 0]).cells.size < (Value.agg #[.int .i64 0,.int .i64 0,.int .i64 0,.int .i64 0,.int .i64 0]).cells.size := Nat.mod_lt _ (by rw [hz0];decide);rw [getElem!_pos (Value.agg #[.int .i64 0,.int .i64 0,.int .i64 0,.int .i64 0,.int .i64 0]).cells (q % (Value.agg #[.int .i64 0,.int .i64 0,.int .i64 0,.int .i64 0,.int .i64 0]).cells.size) hlt2];exact (show ∀ u ∈ (Value.agg #[.int .i64 0,.int .i64 0,.int .i64 0,.int .i64 0,.int .i64 0]).cells,u.oneCell' = true from fun u hu => by simp [Value.cells] at hu;rcases hu with rfl | rfl | rfl | rfl | rfl <;> rfl) _ (Array.getElem_mem hlt2)
   obtain ⟨cur,hcur,hcs⟩ : ∃ cur,wr.heap[gb]? = some (.cells cur 25 (0,0)) ∧ cur.size = cap * 5 := by
    rcases GDel.R_size HO.out with ⟨_,h0⟩ | ⟨g',cap',hv2,_,_,_,⟨cur,hcur,hcs⟩,_⟩
    ·cases h0
    injection hv2 with ha _ hc
    injection ha with ha
    injection ha with ha
    subst ha;subst hc;exact ⟨cur,hcur,hcs⟩
   have hle : i * 5 + (j - i) * 5 <= cap * 5 := by rw [<- Nat.add_mul];exact Nat.mul_le_mul_right _ (by omega)
   have hcl : ∀ ty,(Builtin.clear_ #[23] ty #[.slice (some ⟨gb,i * 5,none⟩) (j - i) (cap - i)]).run Tryd.prog wr = .ok (.tuple #[]) (wr.setCells gb (i * 5) zs) := fun ty => by
    rw [hzs] at hzl hz1 ⊢;exact GDel.run_clear wr _ _ ty _ hu2 Tryd.zeroValue25 gb (i * 5) (j - i) (cap - i) (by omega) hz1 (fun q hq => by rw [cell_of_row wr gb _ cur 25 (0,0) hcur,Array.getElem?_eq_getElem (by omega)];rfl) (fun q hq => by simp [World.frozen?,hcur])
   have hlen : (ys.take i).length = i := by rw [List.length_take,HL.out];omega
   have hres : ys.take i = xs.filter fun x => !f x := by rw [HT.out,HN.out,List.take_length]
   have hfin := GDel.R_behind (GDel.R_cutoff HO.out (show i <= j by omega)) (i * 5) zs (show i * 5 <= i * 5 from Nat.le_refl _) (by rw [hzl];exact hle);rw [hres] at hfin;have HFN := ZA hfin;clear hfin hres hlen hle hcur hcs hz1 hzl hzs hz0;go_wp2;go_ret;exact ⟨_,rfl,HFN.out.1,rfl,GDel.grownBy_trans HG.out HFN.out.2⟩
  have hltz : (j : Int) < (n : Int) := by omega
  have hjx : j < xs.length := by rw [<- HN.out];exact hlt
  obtain ⟨x,hx⟩ : ∃ x,xs[j]? = some x := ⟨_,List.getElem?_eq_getElem hjx⟩;have hmem : x ∈ xs := List.mem_of_getElem? hx;have hy : ys.getD j x = x := by
   have : (ys.drop j)[0]? = (xs.drop j)[0]? := by rw [HD.out]
   rw [List.getElem?_drop,List.getElem?_drop,Nat.add_zero,hx] at this;rw [List.getD_eq_getElem?_getD,this];rfl
  obtain ⟨cs,hcl,hM,hcc,hfr⟩ := Kd.R_elem HO.out x (j : Int) (by omega) hltz;rw [Int.toNat_natCast,hy] at hM;rw [Int.toNat_natCast] at hcc;obtain rfl := k25_openM hM;have l0_ : wr.cell? ⟨gb,j * 5,none⟩ = some (.int .i64 x.f0) := hcc 0 _ rfl;have l1_ : wr.cell? ⟨gb,j * 5 + 1,none⟩ = some (.int .i64 x.f1) := hcc 1 _ rfl;have l2_ : wr.cell? ⟨gb,j * 5 + 2,none⟩ = some (.int .i64 x.f2) := hcc 2 _ rfl;have l3_ : wr.cell? ⟨gb,j * 5 + 3,none⟩ = some (.int .i64 x.f3) := hcc 3 _ rfl;have l4_ : wr.cell? ⟨gb,j * 5 + 4,none⟩ = some (.int .i64 x.f4) := hcc 4 _ rfl;have HC : Aside0 (∀ W,Below wr.heap.size wr W -> Calls Tryd.prog g (#[.agg #[.int .i64 x.f0,.int .i64 x.f1,.int .i64 x.f2,.int .i64 x.f3,.int .i64 x.f4]] ++ lb) W fun e w' => e = .returned (.bool (f x)) ∧ Below W.heap.size W w') := ⟨fun W hW => HP.out W x (GDel.grownBy_trans HG.out (GDel.grownBy_below _ hW)) hmem⟩;have HST := ZA (GDel.kept_step (f := f) hx (by rw [HL.out,HN.out]) hij HD.out HT.out);have HMM := ZA hM;have hst : ∀ W,Below wr.heap.size wr W -> ((∃ old,W.cell? ⟨gb,i * 5,none⟩ = some old) ∧ W.frozen? ⟨gb,i * 5,none⟩ = false) ∧ ((∃ old,W.cell? ⟨gb,i * 5 + 1,none⟩ = some old) ∧ W.frozen? ⟨gb,i * 5 + 1,none⟩ = false) ∧ ((∃ old,W.cell? ⟨gb,i * 5 + 2,none⟩ = some old) ∧ W.frozen? ⟨gb,i * 5 + 2,none⟩ = false) ∧ ((∃ old,W.cell? ⟨gb,i * 5 + 3,none⟩ = some old) ∧ W.frozen? ⟨gb,i * 5 + 3,none⟩ = false) ∧ ((∃ old,W.cell? ⟨gb,i * 5 + 4,none⟩ = some old) ∧ W.frozen? ⟨gb,i * 5 + 4,none⟩ = false) := fun W hW => by
   obtain ⟨ci,hil,hMi,hic,hif⟩ := Kd.R_elem (Kd.R_below HO.out hW) x (i : Int) (by omega) (by omega);rw [Int.toNat_natCast] at hic hif;obtain rfl := k25_openM hMi;exact ⟨⟨⟨_,hic 0 _ rfl⟩,hif 0⟩,⟨⟨_,hic 1 _ rfl⟩,hif 1⟩,⟨⟨_,hic 2 _ rfl⟩,hif 2⟩,⟨⟨_,hic 3 _ rfl⟩,hif 3⟩,⟨⟨_,hic 4 _ rfl⟩,hif 4⟩⟩
  have HS := ZA hst;have HGW : Aside0 (gb < wr.heap.size) := ⟨Nat.lt_of_lt_of_le HGL.out HG.out.size⟩;clear hcc hfr hM hx hy hcl hst hmem
  go_upto_region 8 with (first|((with_reducible refine gate_dst (N := 7) rfl ?_);refine ZE 7 #[.int .i64 0,.int .i64 0,.int .i64 0,.int .i64 0,.int .i64 0] 25 ?_;intro gx hgx w3 hbox hbw;have hx0_ : w3.cell? ⟨gx,0,none⟩ = some (.int .i64 0) := (blk_cell hbox 0).trans rfl;have hy0_ := blk_frozen hbox 0;have hx1_ : w3.cell? ⟨gx,1,none⟩ = some (.int .i64 0) := (blk_cell hbox 1).trans rfl;have hy1_ := blk_frozen hbox 1;have hx2_ : w3.cell? ⟨gx,2,none⟩ = some (.int .i64 0) := (blk_cell hbox 2).trans rfl;have hy2_ := blk_frozen hbox 2;have hx3_ : w3.cell? ⟨gx,3,none⟩ = some (.int .i64 0) := (blk_cell hbox 3).trans rfl;have hy3_ := blk_frozen hbox 3;have hx4_ : w3.cell? ⟨gx,4,none⟩ = some (.int .i64 0) := (blk_cell hbox 4).trans rfl;have hy4_ := blk_frozen hbox 4;have HGX := ZA hgx;have HBX := ZA hbox;have HBW := ZA hbw;clear hgx hbox hbw))
  have BK : Aside0 ((((((w3.setCell ⟨gx,0,none⟩ (.int .i64 x.f0)).setCell ⟨gx,1,none⟩ (.int .i64 x.f1)).setCell ⟨gx,2,none⟩ (.int .i64 x.f2)).setCell ⟨gx,3,none⟩ (.int .i64 x.f3)).setCell ⟨gx,4,none⟩ (.int .i64 x.f4)).heap[gx]? = some (.cells #[.int .i64 x.f0,.int .i64 x.f1,.int .i64 x.f2,.int .i64 x.f3,.int .i64 x.f4] 25 (0,0))) := ⟨by refine blk_put (cs := #[.int .i64 x.f0,.int .i64 x.f1,.int .i64 x.f2,.int .i64 x.f3,.int .i64 0]) ?_ 4 _ rfl;refine blk_put (cs := #[.int .i64 x.f0,.int .i64 x.f1,.int .i64 x.f2,.int .i64 0,.int .i64 0]) ?_ 3 _ rfl;refine blk_put (cs := #[.int .i64 x.f0,.int .i64 x.f1,.int .i64 0,.int .i64 0,.int .i64 0]) ?_ 2 _ rfl;refine blk_put (cs := #[.int .i64 x.f0,.int .i64 0,.int .i64 0,.int .i64 0,.int .i64 0]) ?_ 1 _ rfl;refine blk_put (cs := #[.int .i64 0,.int .i64 0,.int .i64 0,.int .i64 0,.int .i64 0]) ?_ 0 _ rfl;exact HBX.out⟩;have hle3 : wr.heap.size <= gx := Nat.le_of_eq HGX.out.symm;have HB3 : Aside0 (Below wr.heap.size wr (((((w3.setCell ⟨gx,0,none⟩ (.int .i64 x.f0)).setCell ⟨gx,1,none⟩ (.int .i64 x.f1)).setCell ⟨gx,2,none⟩ (.int .i64 x.f2)).setCell ⟨gx,3,none⟩ (.int .i64 x.f3)).setCell ⟨gx,4,none⟩ (.int .i64 x.f4))) := ⟨by repeat (first|exact HBW.out|refine below_set ?_ hle3)⟩;have HLE := ZA hle3;clear hx0_ hy0_ hx1_ hy1_ hx2_ hy2_ hx3_ hy3_ hx4_ hy4_ HBX HBW hle3 HGX;generalize (((((w3.setCell ⟨gx,0,none⟩ (.int .i64 x.f0)).setCell ⟨gx,1,none⟩ (.int .i64 x.f1)).setCell ⟨gx,2,none⟩ (.int .i64 x.f2)).setCell ⟨gx,3,none⟩ (.int .i64 x.f3)).setCell ⟨gx,4,none⟩ (.int .i64 x.f4)) = w4 at BK HB3 ⊢;have hx0_ : w4.cell? ⟨gx,0,none⟩ = some (.int .i64 x.f0) := (blk_cell BK.out 0).trans rfl;have hx1_ : w4.cell? ⟨gx,1,none⟩ = some (.int .i64 x.f1) := (blk_cell BK.out 1).trans rfl;have hx2_ : w4.cell? ⟨gx,2,none⟩ = some (.int .i64 x.f2) := (blk_cell BK.out 2).trans rfl;have hx3_ : w4.cell? ⟨gx,3,none⟩ = some (.int .i64 x.f3) := (blk_cell BK.out 3).trans rfl;have hx4_ : w4.cell? ⟨gx,4,none⟩ = some (.int .i64 x.f4) := (blk_cell BK.out 4).trans rfl;cases hq : f x with
  | false =>
   rw [hq] at HC;have HQ := ZA hq;clear hq
   go_wp2_with (go_at_fn g;refine (HC.out w4 HB3.out).mono ?_;rintro e w' ⟨rfl,hb'⟩;have BK' := ZA (blk_below BK.out hb');have HB4 := ZA (HB3.out.trans (hb'.mono HB3.out.size));have hk0_ : w'.cell? ⟨gx,0,none⟩ = some (.int .i64 x.f0) := (blk_cell BK'.out 0).trans rfl;have hk1_ : w'.cell? ⟨gx,1,none⟩ = some (.int .i64 x.f1) := (blk_cell BK'.out 1).trans rfl;have hk2_ : w'.cell? ⟨gx,2,none⟩ = some (.int .i64 x.f2) := (blk_cell BK'.out 2).trans rfl;have hk3_ : w'.cell? ⟨gx,3,none⟩ = some (.int .i64 x.f3) := (blk_cell BK'.out 3).trans rfl;have hk4_ : w'.cell? ⟨gx,4,none⟩ = some (.int .i64 x.f4) := (blk_cell BK'.out 4).trans rfl;obtain ⟨⟨⟨o0_,s0_⟩,t0_⟩,⟨⟨o1_,s1_⟩,t1_⟩,⟨⟨o2_,s2_⟩,t2_⟩,⟨⟨o3_,s3_⟩,t3_⟩,⟨⟨o4_,s4_⟩,t4_⟩⟩ := HS.out w' HB4.out)
   go_roundg (n - (j + 1))
   case measure => omega
   case rel =>
    have h3 := Kd.R_below HO.out HB4.out;obtain ⟨ci,hil,_,hic,_⟩ := Kd.R_elem h3 x (i : Int) (by omega) (by omega);obtain ⟨h4,h5⟩ := Kd.R_seg (seg := [.int .i64 x.f0,.int .i64 x.f1,.int .i64 x.f2,.int .i64 x.f3,.int .i64 x.f4]) (j := 0) (x' := x) (okp := fun k_ => ok k_ ∧ k_ ≠ gb) h3 (i : Int) (by omega) (by omega) hil hic (show 5 <= 5 from Nat.le_refl _) (by
     rw [List.take_zero,List.nil_append,List.drop_eq_nil_of_le (by rw [hil];exact Nat.le_refl _),List.append_nil];exact Kd.M_below HMM.out HB4.out) (fun _ hk => hk)
    rw [Int.toNat_natCast,Nat.add_zero] at h4 h5;exact ⟨i + 1,j + 1,ys.set i x,by go_num,by go_num,by omega,Nat.le_refl _,by omega,⟨h4⟩,⟨GDel.grownBy_trans (GDel.grownBy_trans HG.out (GDel.grownBy_below _ HB4.out)) h5⟩,⟨by rw [List.length_set];exact HL.out⟩,⟨HST.out.2.2.2⟩,⟨HST.out.2.1 HQ.out⟩⟩
  | true =>
   rw [hq] at HC;have HQ := ZA hq;clear hq
   go_wp2_with (go_at_fn g;refine (HC.out w4 HB3.out).mono ?_;rintro e w' ⟨rfl,hb'⟩;have HB4 := ZA (HB3.out.trans (hb'.mono HB3.out.size)))
   go_roundg (n - (j + 1))
   case measure => omega
   case rel => exact ⟨i,j + 1,ys,rfl,by go_num,by omega,Nat.le_refl _,by omega,⟨Kd.R_below HO.out HB4.out⟩,⟨GDel.grownBy_trans HG.out (GDel.grownBy_below _ HB4.out)⟩,HL,⟨HST.out.2.2.1⟩,⟨HST.out.1 HQ.out⟩⟩
set_option maxHeartbeats 1000000 in
theorem slices_DeleteFunc_impl_Key.lit (a : Int) (x0 x1 x2 x3 x4 : Int) (gb : Nat) (W : World) (hc : W.cell? ⟨gb,0,none⟩ = some (.int .i64 a)) :
  Calls Tryd.prog 51 (#[.agg #[.int .i64 x0,.int .i64 x1,.int .i64 x2,.int .i64 x3,.int .i64 x4]] ++ #[.pointer (some ⟨gb,0,none⟩)]) W fun e w' => e = .returned (.bool (decide (x0 = a))) ∧ Below W.heap.size W w' := by
 have hc2 : (W.alloc (.cells #[.int .i64 x0,.int .i64 x1,.int .i64 x2,.int .i64 x3,.int .i64 x4] 25)).cell? ⟨gb,0,none⟩ = some (.int .i64 a) := Lib.cell?_alloc_some _ hc;have hu := Tryd.underlying25;have e_ : (x0 == a) = decide (x0 = a) := by rw [Bool.eq_iff_iff];simp
 rw [<- e_];clear hc e_;show Calls Tryd.prog 51 #[.agg #[.int .i64 x0,.int .i64 x1,.int .i64 x2,.int .i64 x3,.int .i64 x4],.pointer (some ⟨gb,0,none⟩)] W _;go_enter Tryd.func51,Tryd.ntmps51;go_wp2;go_ret;exact ⟨rfl,below_alloc (Below.refl _ _) _⟩
set_option maxHeartbeats 1000000 in
theorem slices_DeleteFunc_impl_Key.calls (P0_ : Nat -> Prop) (u9000_ : Value) (l0 : List (S25)) (a1 : Int) (r : List (S25)) {gb : Nat} (w0 w : World) (hB : Below w0.heap.size w0 w) (ho0 : Kd.R k25 25 w w0.heap.size P0_ u9000_ l0) (hbx : w.cell? ⟨gb,0,none⟩ = some (.int .i64 a1)) (hne : some gb ≠ u9000_.ownBlock) (h : slices_DeleteFunc_impl_Key.f l0 a1 = some r) :
  Calls Tryd.prog 49 #[u9000_,.func (.func 51) #[] #[.pointer (some ⟨gb,0,none⟩)]] w fun e w' => ∃ v0_ : Value,e = .returned v0_ ∧ Kd.R k25 25 w' w0.heap.size (fun k_ => (P0_ k_ ∨ w.heap.size <= k_)) v0_ r ∧ Below w0.heap.size w0 w' ∧ Kept w w' (fun k_ => P0_ k_) := by
 obtain rfl := Option.some.inj h;have eg : ∀ args w,(callFunc 51 args).run Tryd.prog w = .ok (.enter 51 args) w := enters_of Tryd.func51 (by kernel_rfl) rfl;have hcon := slices_DeleteFunc_impl_Key.gdel (fun x => decide (x.f0 = a1)) 51 #[.pointer (some ⟨gb,0,none⟩)] eg w0.heap.size P0_ u9000_ l0 w ho0 (fun W x hg hx => slices_DeleteFunc_impl_Key.lit a1 x.f0 x.f1 x.f2 x.f3 x.f4 gb W (hg.cell hbx hne));refine hcon.mono ?_;rintro e w' ⟨v',rfl,h1,h2,h3⟩;refine ⟨v',rfl,Kd.R_mono h1 (fun _ hk => .inl hk),hB.grown h3 hB.size (fun k hk => Kd.R_base ho0 k hk),h3.size,fun i hi hn => h3.block i hi (fun he => hn (ho0.1 i he.symm))⟩
end Go.Proofs.YtkobnljfoedmnaaDoor.Q
