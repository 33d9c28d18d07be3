import Derived.Test.YtgnijnlgbelifaaGreatProg
import Derived.Test.YtgnijnlgbelifaaGreatWMore
namespace Go.Proofs.YtgnijnlgbelifaaGreat.Q
open RowKit W.PrintWords W.PrintLast W.PrintMore
attribute [local go_sem] Ebi Ebj Ebx Eby Ebb Ebc Ebk Ebl   -- for this text's walks alone
set_option linter.unusedVariables false
set_option linter.unusedSimpArgs false
def errW : Option Int -> Value
 | none => .nilIface
 | some c => .iface 0 (.int .i64 c)
theorem errW_none : errW none = .nilIface := rfl
theorem errW_some (c : Int) : errW (some c) = .iface 0 (.int .i64 c) := rfl
theorem info3 : (Tryz.prog.info? 3).map (fun i => (i.zero,i.size,i.bytes)) = some (some (.int .i64 0),1,8) := by kernel_rfl
theorem info28 : (Tryz.prog.info? 28).map (fun i => (i.zero,i.size,i.bytes)) = some (some (.slice none 0 0),1,24) := by kernel_rfl
theorem info30 : (Tryz.prog.info? 30).map (fun i => (i.zero,i.size,i.bytes)) = some (some (.agg #[(.int .i64 0),(.slice none 0 0)]),2,32) := by kernel_rfl
theorem info41 : (Tryz.prog.info? 41).map (fun i => (i.zero,i.size,i.bytes)) = some (some (.agg #[(.string ⟨#[]⟩),(.slice none 0 0),(.int .i64 0)]),3,48) := by kernel_rfl
def rd_L2 (xs : List (List Int)) (i : Int) : (List Int) := xs.getD i.toNat ([] : List Int)
theorem at_L2 {w : World} {A : Option Addr} {n : Nat} {xs : List (List Int)} (h : Kd.C (Kd.slice 3 (Kd.int .i64)) w A n xs) (i : Int) (h0 : 0 <= i) (h1 : i < n) : ∃ ad A0 c0,A = some ad ∧ w.cell? (ad.add i.toNat) = some (.slice A0 (rd_L2 xs i).length c0) ∧ (rd_L2 xs i).length <= c0 ∧ (Kd.int .i64).C w A0 (rd_L2 xs i).length (rd_L2 xs i) := by
 obtain ⟨ad,c,e,_,hK,d⟩ := Kd.Ejj h ([] : List Int) i h0 h1;have hc : ∀ j u,c[j]? = some u -> w.cell? (ad.add (i.toNat * 1 + j)) = some u := d;obtain ⟨A0,c0,rfl,l0,g0⟩ := hK;exact ⟨ad,A0,c0,e,by have hq := hc 0 _ rfl;rwa [Nat.mul_one,Nat.add_zero] at hq,l0,g0⟩
structure S41 where
 f0 : ByteArray
 f1 : (List Int)
 f2 : Int
def z41 : S41 := ⟨(⟨#[]⟩ : ByteArray),([] : List Int),(0 : Int)⟩
def k41 : Kd S41 := Kd.iso (Kd.pair Kd.string (Kd.pair (Kd.slice 3 (Kd.int .i64)) (Kd.int .i64))) (fun x : S41 => (x.f0,x.f1,x.f2))
theorem k41_open {w : World} {x : S41} {cs : List Value} (h : k41.K w x cs) : ∃ A1 c1,cs = [.string x.f0,.slice A1 x.f1.length c1,.int .i64 x.f2] ∧ x.f1.length <= c1 ∧ (Kd.int .i64).C w A1 x.f1.length x.f1 := by
 obtain ⟨_,_,rfl,rfl,⟨_,_,rfl,⟨A1,c1,rfl,l1,g1⟩,rfl⟩⟩ := h;exact ⟨A1,c1,rfl,l1,g1⟩
theorem k41_openM {w : World} {base : Nat} {ok : Nat -> Prop} {x : S41} {cs : List Value} (h : k41.M w base ok x cs) : ∃ v1,cs = [.string x.f0,v1,.int .i64 x.f2] ∧ (Kd.int .i64).R 3 w base ok v1 x.f1 := by
 obtain ⟨_,_,rfl,rfl,⟨_,_,rfl,⟨v1,rfl,g1⟩,rfl⟩⟩ := h;exact ⟨v1,rfl,g1⟩
theorem k41_mk (w : World) (x : S41) {A1 : Option Addr} {c1 : Nat} (l1 : x.f1.length <= c1) (g1 : (Kd.int .i64).C w A1 x.f1.length x.f1) : k41.K w x [.string x.f0,.slice A1 x.f1.length c1,.int .i64 x.f2] := ⟨[.string x.f0],[.slice A1 x.f1.length c1,.int .i64 x.f2],rfl,rfl,⟨[.slice A1 x.f1.length c1],[.int .i64 x.f2],rfl,⟨A1,c1,rfl,l1,g1⟩,rfl⟩⟩
theorem k41_mkM (w : World) (base : Nat) (ok : Nat -> Prop) (x : S41) {v1 : Value} (g1 : (Kd.int .i64).R 3 w base ok v1 x.f1) : k41.M w base ok x [.string x.f0,v1,.int .i64 x.f2] := ⟨[.string x.f0],[v1,.int .i64 x.f2],rfl,rfl,⟨[v1],[.int .i64 x.f2],rfl,⟨v1,rfl,g1⟩,rfl⟩⟩
theorem k41_openF {W : World} {ok : Nat -> Prop} {x : S41} {cs : List Value} (h : Kd.FK k41 W ok x cs) : ∃ A1 c1,cs = [.string x.f0,.slice A1 x.f1.length c1,.int .i64 x.f2] ∧ x.f1.length <= c1 ∧ Kd.F (Kd.int .i64) W ok A1 x.f1.length x.f1 := by
 obtain ⟨A1,c1,rfl,l1,_⟩ := k41_open (Kd.Efp h);exact ⟨A1,c1,rfl,l1,(fun W' hW => by obtain ⟨d,f,he,aa,g⟩ := k41_open (h W' hW);injection (Option.some.inj (show some (Value.slice A1 x.f1.length c1) = some (Value.slice d x.f1.length f) from congrArg (fun l => l[1]?) he)) with ha_ _ _;rw [ha_];exact g)⟩
theorem k41_mkF (W : World) (ok : Nat -> Prop) (x : S41) {A1 : Option Addr} {c1 : Nat} (l1 : x.f1.length <= c1) (g1 : Kd.F (Kd.int .i64) W ok A1 x.f1.length x.f1) : Kd.FK k41 W ok x [.string x.f0,.slice A1 x.f1.length c1,.int .i64 x.f2] := fun W2 hW => k41_mk W2 x l1 (g1 W2 hW)
def rd_T41 (xs : List S41) (i : Int) : S41 := xs.getD i.toNat z41
theorem at_T41 {w : World} {A : Option Addr} {n : Nat} {xs : List S41} (h : Kd.C k41 w A n xs) (i : Int) (h0 : 0 <= i) (h1 : i < n) : ∃ ad A1 c1,A = some ad ∧ w.cell? (ad.add (i.toNat * 3)) = some (.string (rd_T41 xs i).f0) ∧ w.cell? ⟨(ad.add (i.toNat * 3)).block,(ad.add (i.toNat * 3)).off + 1,none⟩ = some (.slice A1 (rd_T41 xs i).f1.length c1) ∧ w.cell? ⟨(ad.add (i.toNat * 3)).block,(ad.add (i.toNat * 3)).off + 2,none⟩ = some (.int .i64 (rd_T41 xs i).f2) ∧ (rd_T41 xs i).f1.length <= c1 ∧ (Kd.int .i64).C w A1 (rd_T41 xs i).f1.length (rd_T41 xs i).f1 := by
 obtain ⟨ad,c,e,_,hK,d⟩ := Kd.Ejj h z41 i h0 h1;have hc : ∀ j u,c[j]? = some u -> w.cell? (ad.add (i.toNat * 3 + j)) = some u := d;obtain ⟨A1,c1,rfl,l1,g1⟩ := k41_open hK;exact ⟨ad,A1,c1,e,hc 0 _ rfl,by rw [<- Edm _ _ 1 (by omega)];exact hc 1 _ rfl,by rw [<- Edm _ _ 2 (by omega)];exact hc 2 _ rfl,l1,g1⟩
structure S30 where
 f0 : Int
 f1 : (List Int)
def z30 : S30 := ⟨(0 : Int),([] : List Int)⟩
def k30 : Kd S30 := Kd.iso (Kd.pair (Kd.int .i64) (Kd.slice 3 (Kd.int .i64))) (fun x : S30 => (x.f0,x.f1))
theorem k30_open {w : World} {x : S30} {cs : List Value} (h : k30.K w x cs) : ∃ A1 c1,cs = [.int .i64 x.f0,.slice A1 x.f1.length c1] ∧ x.f1.length <= c1 ∧ (Kd.int .i64).C w A1 x.f1.length x.f1 := by
 obtain ⟨_,_,rfl,rfl,⟨A1,c1,rfl,l1,g1⟩⟩ := h;exact ⟨A1,c1,rfl,l1,g1⟩
theorem k30_mk (w : World) (x : S30) {A1 : Option Addr} {c1 : Nat} (l1 : x.f1.length <= c1) (g1 : (Kd.int .i64).C w A1 x.f1.length x.f1) : k30.K w x [.int .i64 x.f0,.slice A1 x.f1.length c1] := ⟨[.int .i64 x.f0],[.slice A1 x.f1.length c1],rfl,rfl,⟨A1,c1,rfl,l1,g1⟩⟩
theorem k30_mkM (w : World) (base : Nat) (ok : Nat -> Prop) (x : S30) {v1 : Value} (g1 : (Kd.int .i64).R 3 w base ok v1 x.f1) : k30.M w base ok x [.int .i64 x.f0,v1] := ⟨[.int .i64 x.f0],[v1],rfl,rfl,⟨v1,rfl,g1⟩⟩
theorem k30_openF {W : World} {ok : Nat -> Prop} {x : S30} {cs : List Value} (h : Kd.FK k30 W ok x cs) : ∃ A1 c1,cs = [.int .i64 x.f0,.slice A1 x.f1.length c1] ∧ x.f1.length <= c1 ∧ Kd.F (Kd.int .i64) W ok A1 x.f1.length x.f1 := by
 obtain ⟨A1,c1,rfl,l1,_⟩ := k30_open (Kd.Efp h);exact ⟨A1,c1,rfl,l1,(fun W' hW => by obtain ⟨d,f,he,aa,g⟩ := k30_open (h W' hW);injection (Option.some.inj (show some (Value.slice A1 x.f1.length c1) = some (Value.slice d x.f1.length f) from congrArg (fun l => l[1]?) he)) with ha_ _ _;rw [ha_];exact g)⟩
theorem k30_mkF (W : World) (ok : Nat -> Prop) (x : S30) {A1 : Option Addr} {c1 : Nat} (l1 : x.f1.length <= c1) (g1 : Kd.F (Kd.int .i64) W ok A1 x.f1.length x.f1) : Kd.FK k30 W ok x [.int .i64 x.f0,.slice A1 x.f1.length c1] := fun W2 hW => k30_mk W2 x l1 (g1 W2 hW)
def rd_T30 (xs : List S30) (i : Int) : S30 := xs.getD i.toNat z30
theorem at_T30 {w : World} {A : Option Addr} {n : Nat} {xs : List S30} (h : Kd.C k30 w A n xs) (i : Int) (h0 : 0 <= i) (h1 : i < n) : ∃ ad A1 c1,A = some ad ∧ w.cell? (ad.add (i.toNat * 2)) = some (.int .i64 (rd_T30 xs i).f0) ∧ w.cell? ⟨(ad.add (i.toNat * 2)).block,(ad.add (i.toNat * 2)).off + 1,none⟩ = some (.slice A1 (rd_T30 xs i).f1.length c1) ∧ (rd_T30 xs i).f1.length <= c1 ∧ (Kd.int .i64).C w A1 (rd_T30 xs i).f1.length (rd_T30 xs i).f1 := by
 obtain ⟨ad,c,e,_,hK,d⟩ := Kd.Ejj h z30 i h0 h1;have hc : ∀ j u,c[j]? = some u -> w.cell? (ad.add (i.toNat * 2 + j)) = some u := d;obtain ⟨A1,c1,rfl,l1,g1⟩ := k30_open hK;exact ⟨ad,A1,c1,e,hc 0 _ rfl,by rw [<- Edm _ _ 1 (by omega)];exact hc 1 _ rfl,l1,g1⟩
end Go.Proofs.YtgnijnlgbelifaaGreat.Q
