-- PRINTED BY print.sh 35421559b90ae4d0a3588c463048766b98c2df88dd9212a6774a882060cdf62d: not written by this session
import Derived.Test.YtgnijnlgbelifaaGreatWLast
import Derived.Test.YtgnijnlgbelifaaGreatWWords
namespace Go.Proofs.YtgnijnlgbelifaaGreat.W.PrintLast
open Go.Proofs.YtgnijnlgbelifaaGreat.W.PrintWords (Aside0)
def Efm (md : Region.Mode) (o : Oper) : List Nat := (o.after.toList.filter (fun e => Region.binds md e)).map (fun e => e.on)
def Eii (md : Region.Mode) (ops : Array Oper) (i : Nat) (oi : Oper) : List Nat := (List.range ops.size).filter fun j => !(j == i) && match ops[j]? with
 | some oj => !(oj.after.any (fun e => Region.binds md e && e.on == i) || oi.apart ops oj)
 | none => false
def rtab (md : Region.Mode) (ops : Array Oper) : Bool × List (List Nat × List Nat) := (Region.noSelect ops,(List.range ops.size).map fun i => match ops[i]? with
 | some o => (Efm md o,Eii md ops i o)
 | none => ([],[]))
def Eeq (T : List (List Nat × List Nat)) (l : List Bool) (i : Nat) : Bool := !l.getD i true && match T[i]? with
 | some r => r.1.all (fun j => l.getD j false)
 | none => false
def Efy (T : List (List Nat × List Nat)) (l : List Bool) : List Nat := (List.range T.length).filter (Eeq T l)
def Ejp (T : List (List Nat × List Nat)) (l : List Bool) (i : Nat) : Bool := match T[i]? with
 | some r => r.2.all (fun j => l.getD j true)
 | none => false
def Ehi (T : List (List Nat × List Nat)) (l : List Bool) : Bool := (List.range T.length).all fun j => !l.getD j false || match T[j]? with
 | some r => r.1.all (fun k => l.getD k false)
 | none => true
def Egv (T : List (List Nat × List Nat)) (i : Nat) : Nat -> Nat -> Bool
 | 0,_ => false
 | fuel + 1,d => match T[d]? with
  | some r => r.1.any fun j => j == i || Egv T i fuel j
  | none => false
def Elg (T : List (List Nat × List Nat)) (l : List Bool) (ds : List Nat) (i : Nat) : Bool := ds.all fun d => l.getD d true || Egv T i T.length d
section
variable {md : Region.Mode} {ops : Array Oper} {T : Bool × List (List Nat × List Nat)} {l l' li lj lk : Array Bool} {ds : List Nat} {i j k : Nat}
theorem gd (l : Array Bool) (j : Nat) (b : Bool) : l.getD j b = l.toList.getD j b := by simp [Array.getD_eq_getD_getElem?,List.getD_eq_getElem?_getD]
theorem Ehs (o : Oper) (p : Nat -> Bool) : o.after.all (fun e => !Region.binds md e || p e.on) = (Efm md o).all p := by
 unfold Efm
 rw [<- Array.all_toList]
 induction o.after.toList with
 | nil => rfl
 | cons e r ih =>
  rw [List.all_cons,ih,List.filter_cons]
  cases h : Region.binds md e <;> simp
theorem Ejq (o : Oper) (p : Nat -> Bool) : o.after.any (fun e => Region.binds md e && p e.on) = (Efm md o).any p := by
 unfold Efm
 rw [<- Array.any_toList]
 induction o.after.toList with
 | nil => rfl
 | cons e r ih =>
  rw [List.any_cons,ih,List.filter_cons]
  cases h : Region.binds md e <;> simp
theorem Eeh : (rtab md ops).2.length = ops.size := by simp [rtab]
theorem Ef {o : Oper} (h : ops[i]? = some o) : (rtab md ops).2[i]? = some (Efm md o,Eii md ops i o) := by
 have hi := (Array.getElem?_eq_some_iff.1 h).1
 unfold rtab
 rw [List.getElem?_map,List.getElem?_range hi,Option.map_some,h]
theorem Efa (h : ops[i]? = none) : (rtab md ops).2[i]? = none := by
 have hi : ops.size <= i := Array.getElem?_eq_none_iff.1 h
 exact List.getElem?_eq_none (by rw [Eeh];exact hi)
theorem Eje : Eeq (rtab md ops).2 l.toList i = (!l.getD i true && ((ops[i]?).map (·.after.all fun e => !Region.binds md e || l.getD e.on false)).getD false) := by
 unfold Eeq
 rw [gd]
 cases h : ops[i]? with
 | none => rw [Efa h];rfl
 | some o =>
  rw [Ef h]
  simp only [Option.map_some,Option.getD_some]
  rw [<- Ehs]
  simp only [gd]
theorem ready_eq : Region.ready md ops l = Efy (rtab md ops).2 l.toList := by
 unfold Region.ready Efy
 rw [Eeh]
 refine List.filter_congr (fun i _ => ?_)
 rw [Eje]
theorem free_eq : Region.free md ops l i = Ejp (rtab md ops).2 l.toList i := by
 unfold Region.free Ejp
 cases h : ops[i]? with
 | none => rw [Efa h]
 | some oi =>
  rw [Ef h]
  simp only [Eii]
  rw [List.all_filter]
  congr 1
  funext j
  rw [gd]
  cases hj : ops[j]? with
  | none => cases (j == i) <;> cases (l.toList.getD j true) <;> simp
  | some oj =>
   cases (j == i) <;> cases (l.toList.getD j true) <;> cases (oj.after.any (fun e => Region.binds md e && e.on == i) || oi.apart ops oj) <;> simp_all
theorem Ejr : Region.Egl md ops l = Ehi (rtab md ops).2 l.toList := by
 unfold Region.Egl Ehi
 rw [Eeh]
 congr 1
 funext j
 rw [gd]
 cases h : ops[j]? with
 | none => rw [Efa h]
 | some o =>
  rw [Ef h]
  simp only
  rw [<- Ehs]
  simp only [gd]
theorem Eix : ∀ (fuel d : Nat),Region.Eeo md ops i fuel d = Egv (rtab md ops).2 i fuel d
 | 0,_ => rfl
 | fuel + 1,d => by
  unfold Region.Eeo Egv
  cases h : ops[d]? with
  | none => rw [Efa h]
  | some o =>
   rw [Ef h]
   simp only
   rw [<- Ejq]
   congr 1
   funext e
   rw [Eix fuel]
theorem Emn : Region.Elb md ops l ds i = Elg (rtab md ops).2 l.toList ds i := by
 unfold Region.Elb Elg
 rw [Eeh]
 congr 1
 funext d
 rw [gd,Eix]
theorem Efz (h : Eeq T.2 l.toList i = true) (hT : rtab md ops = T) : (Region.ready md ops l).contains i = true := by
 subst hT
 rw [ready_eq]
 unfold Efy
 rw [List.contains_iff_mem,List.mem_filter,List.mem_range]
 refine ⟨?_,h⟩
 unfold Eeq at h
 rw [Bool.and_eq_true] at h
 cases hq : (rtab md ops).2[i]? with
 | none => rw [hq] at h;simp at h
 | some r => exact (List.getElem?_eq_some_iff.1 hq).1
theorem Eht (h : (l.toList.set i true == l'.toList) = true) : (l.setIfInBounds i true == l') = true := by
 rw [beq_iff_eq] at h ⊢
 apply Array.ext'
 rw [Array.toList_setIfInBounds]
 exact h
def anyT (T : Bool × List (List Nat × List Nat)) (l l' : List Bool) (i : Nat) : Bool := T.1 && Ejp T.2 l i && Eeq T.2 l i && (l.set i true == l')
theorem Ely (hT : rtab md ops = T) (h : anyT T l.toList l'.toList i = true) : anyB md ops l l' i = true := by
 simp only [anyT,Bool.and_eq_true] at h
 obtain ⟨⟨⟨h1,h2⟩,h3⟩,h4⟩ := h
 have h5 := Efz h3 hT
 have h6 := Eht h4
 subst hT
 simp only [anyB,Bool.and_eq_true]
 exact ⟨⟨⟨h1,by rw [free_eq];exact h2⟩,h5⟩,h6⟩
def Emo (T : Bool × List (List Nat × List Nat)) (ds : List Nat) (l l' : List Bool) (i : Nat) : Bool := T.1 && Ejp T.2 l i && Eeq T.2 l i && Ehi T.2 l && Elg T.2 l ds i && (l.set i true == l')
theorem Emp (hT : rtab md ops = T) (h : Emo T ds l.toList l'.toList i = true) : takeB md ops ds l l' i = true := by
 simp only [Emo,Bool.and_eq_true] at h
 obtain ⟨⟨⟨⟨⟨h1,h2⟩,h3⟩,h4⟩,h5⟩,h6⟩ := h
 have h7 := Efz h3 hT
 have h8 := Eht h6
 subst hT
 simp only [takeB,Bool.and_eq_true]
 exact ⟨⟨⟨⟨⟨h1,by rw [free_eq];exact h2⟩,h7⟩,by rw [Ejr];exact h4⟩,by rw [Emn];exact h5⟩,h8⟩
theorem Eds (hT : rtab md ops = T) (h : (Efy T.2 l.toList == [i] && l.toList.set i true == l'.toList) = true) : Ehf md ops l l' i = true := by
 simp only [Bool.and_eq_true] at h
 obtain ⟨h1,h2⟩ := h
 subst hT
 simp only [Ehf,Bool.and_eq_true]
 exact ⟨by rw [ready_eq];exact h1,Eht h2⟩
theorem Ehu (hT : rtab md ops = T) (h : (Efy T.2 l.toList == [i,j] && l.toList.set i true == li.toList && l.toList.set j true == lj.toList) = true) : (Region.ready md ops l == [i,j] && l.setIfInBounds i true == li && l.setIfInBounds j true == lj) = true := by
 simp only [Bool.and_eq_true] at h ⊢
 obtain ⟨⟨h1,h2⟩,h3⟩ := h
 subst hT
 exact ⟨⟨by rw [ready_eq];exact h1,Eht h2⟩,Eht h3⟩
theorem Eb (hT : rtab md ops = T) (h : (Efy T.2 l.toList == []) = true) : (Region.ready md ops l == []) = true := by
 subst hT
 rw [ready_eq]
 exact h
def upM (B : List Nat) (d : Nat) : List Nat -> Nat
 | [] => 0
 | n :: r => (2 ^ n ||| (if n < d then B.getD n 0 else 0)) ||| upM B d r
def Ecc (T : List (List Nat × List Nat)) (B : List Nat) : Bool := (List.range T.length).all fun d => match T[d]? with
 | some r => (B.getD d 0 ||| upM B d r.1) == upM B d r.1
 | none => false
theorem Ejs {B : List Nat} {d i : Nat} : ∀ {ns : List Nat},(upM B d ns).testBit i = true -> ∃ n ∈ ns,n = i ∨ (n < d ∧ (B.getD n 0).testBit i = true)
 | [],h => by simp [upM] at h
 | n :: r,h => by
  unfold upM at h
  rw [Nat.testBit_or,Nat.testBit_or,Bool.or_eq_true,Bool.or_eq_true] at h
  rcases h with (h | h) | h
  ·rw [Nat.testBit_two_pow] at h
   exact ⟨n,List.mem_cons_self,.inl (by simpa using h)⟩
  ·by_cases hn : n < d
   ·rw [if_pos hn] at h
    exact ⟨n,List.mem_cons_self,.inr ⟨hn,h⟩⟩
   ·rw [if_neg hn] at h
    simp at h
  ·obtain ⟨m,hm,h2⟩ := Ejs h
   exact ⟨m,List.mem_cons_of_mem _ hm,h2⟩
theorem Ehv {T : List (List Nat × List Nat)} {B : List Nat} (hB : Ecc T B = true) : ∀ (fuel d : Nat),d < fuel -> d < T.length -> (B.getD d 0).testBit i = true -> Egv T i fuel d = true
 | 0,d,h,_,_ => by omega
 | fuel + 1,d,h,hd,hb => by
  have h1 := List.all_eq_true.1 hB d (List.mem_range.2 hd)
  cases hr : T[d]? with
  | none => rw [hr] at h1;simp at h1
  | some r =>
   rw [hr] at h1
   simp only [beq_iff_eq] at h1
   have h2 : (upM B d r.1).testBit i = true := by rw [<- h1,Nat.testBit_or,hb,Bool.true_or]
   obtain ⟨n,hn,h3⟩ := Ejs h2
   unfold Egv
   rw [hr]
   simp only
   rw [List.any_eq_true]
   refine ⟨n,hn,?_⟩
   rcases h3 with rfl | ⟨h4,h5⟩
   ·simp
   ·rw [Ehv hB fuel n (by omega) (by omega) h5,Bool.or_true]
def Eno (T : List (List Nat × List Nat)) (B : List Nat) (l : List Bool) (ds : List Nat) (i : Nat) : Bool := ds.all fun d => l.getD d true || (decide (d < T.length) && (B.getD d 0).testBit i)
def Emq (T : Bool × List (List Nat × List Nat)) (B : List Nat) (ds : List Nat) (l l' : List Bool) (i : Nat) : Bool := T.1 && Ejp T.2 l i && Eeq T.2 l i && Ehi T.2 l && Eno T.2 B l ds i && (l.set i true == l')
theorem Elh {B : List Nat} (hT : rtab md ops = T) (hB : Ecc T.2 B = true) (h : Emq T B ds l.toList l'.toList i = true) : takeB md ops ds l l' i = true := by
 refine Emp hT ?_
 simp only [Emq,Emo,Bool.and_eq_true] at h ⊢
 obtain ⟨⟨⟨⟨⟨h1,h2⟩,h3⟩,h4⟩,h5⟩,h6⟩ := h
 refine ⟨⟨⟨⟨⟨h1,h2⟩,h3⟩,h4⟩,?_⟩,h6⟩
 unfold Eno at h5
 unfold Elg
 rw [List.all_eq_true] at h5 ⊢
 intro d hd
 have h7 := h5 d hd
 rw [Bool.or_eq_true,Bool.and_eq_true,decide_eq_true_eq] at h7
 rcases h7 with h7 | ⟨h8,h9⟩
 ·rw [h7,Bool.true_or]
 ·rw [Ehv hB _ d h8 h8 h9,Bool.or_true]
theorem Eat {P : Program} {Q : Exit -> Act -> World -> Prop} {S : World -> Prop} {n : Nat} {a : Act} {w : World} {B : List Nat} (hT : rtab md ops = T) (hB : Ecc T.2 B = true) (h : Aside0 (rtab md ops = T) -> Aside0 (Ecc T.2 B = true) -> Eaq P md ops Q S ds n l a w) : Eaq P md ops Q S ds n l a w := h ⟨hT⟩ ⟨hB⟩
end
def Ego : Code -> Nat -> Option (Array Oper)
 | .region id ops _,k => if id == k then some ops else none
 | .seq a b,k => match Ego a k with
  | some o => some o
  | none => Ego b k
 | .cond _ a b,k => match Ego a k with
  | some o => some o
  | none => Ego b k
 | .block _ c,k => Ego c k
 | .loop c,k => Ego c k
 | .scope c,k => Ego c k
 | .rangeFunc _ _ a b,k => match Ego a k with
  | some o => some o
  | none => Ego b k
 | _,_ => none
def opsOf (f : Func) (k : Nat) : Array Oper := ((f.body.bind fun c => Ego c k)).getD #[]
end Go.Proofs.YtgnijnlgbelifaaGreat.W.PrintLast
