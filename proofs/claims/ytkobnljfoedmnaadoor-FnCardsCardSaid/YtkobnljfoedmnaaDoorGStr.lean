/- How the walk spells the order of strings: each of '<=','>','>=' by '<' alone. Any strings;no condition. -/
import Derived.WalkKit
import Derived.Laws.Strings
set_option linter.unusedSimpArgs false
namespace Go.Proofs.YtkobnljfoedmnaaDoorW.GStr
theorem less_total : ∀ a b : List UInt8,(Op.bytesLess a b || a == b) = !(Op.bytesLess b a)
 | [],[] => by simp [Op.bytesLess]
 | [],_ :: _ => by simp [Op.bytesLess]
 | _ :: _,[] => by simp [Op.bytesLess]
 | a :: x,b :: y => by
  have ih := less_total x y
  have e : (a :: x == b :: y) = (a == b && x == y) := by simp [List.cons_beq_cons]
  simp only [Op.bytesLess,e]
  by_cases h1 : a = b
  ·subst h1
   simp [<- ih]
  ·have h2 : ¬ b = a := fun h => h1 h.symm
   by_cases h3 : a < b
   ·have h4 : ¬ b < a := fun h => by
     have h5 := UInt8.lt_iff_toNat_lt.1 h
     have h6 := UInt8.lt_iff_toNat_lt.1 h3
     omega
    simp [h1,h2,h3,h4]
   ·have h4 : b < a := by
     have h7 : ¬ a.toNat = b.toNat := fun h => h1 (UInt8.toNat_inj.1 h)
     rw [UInt8.lt_iff_toNat_lt] at h3 ⊢
     omega
    simp [h1,h2,h3,h4]
theorem str_leq (t : TypeId) (a b : ByteArray) : binOp .leq t (.string a) (.string b) = pure (.bool !(Op.bytesLess b.toList a.toList)) := by
 rw [<- less_total]
 simp [binOp,Op.stringOp]
theorem str_gtr (t : TypeId) (a b : ByteArray) : binOp .gtr t (.string a) (.string b) = pure (.bool (Op.bytesLess b.toList a.toList)) := by
 have h := less_total a.toList b.toList
 have e : Op.bytesLess b.toList a.toList = !(Op.bytesLess a.toList b.toList || a.toList == b.toList) := by rw [h];simp
 rw [e]
 simp [binOp,Op.stringOp]
theorem str_geq (t : TypeId) (a b : ByteArray) : binOp .geq t (.string a) (.string b) = pure (.bool !(Op.bytesLess a.toList b.toList)) := by
 simp [binOp,Op.stringOp]
end Go.Proofs.YtkobnljfoedmnaaDoorW.GStr
