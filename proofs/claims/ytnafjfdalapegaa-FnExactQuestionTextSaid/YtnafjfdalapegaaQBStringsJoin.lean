-- Written for the seat Ytnafjfdalapegaa by a program of this session (wip/tool/gx.py) out of the translation. Lean checks it.
import Derived.Test.YtnafjfdalapegaaQ0
import Derived.Test.YtnafjfdalapegaaS156
import Derived.Test.YtnafjfdalapegaaGIdx
import Derived.Lib.Join
import Derived.Test.YtnafjfdalapegaaWFoot
import Derived.Test.YtnafjfdalapegaaWKept
import Derived.Test.YtnafjfdalapegaaWShare
namespace Go.Proofs.Ytnafjfdalapegaa.Q
open Go.RowKit Go.Proofs.YtnafjfdalapegaaW.PrintWords Go.Proofs.YtnafjfdalapegaaW.PrintLast Go.Proofs.YtnafjfdalapegaaW.PrintMore
attribute [local go_sem] max2_int min2_int max_two min_two max_three min_three max_four min_four   -- for this text's walks alone
set_option linter.unusedVariables false
set_option linter.unusedSimpArgs false

/-! ### strings_Join: function 61 -/
def strings_Join.f (l0 : List ByteArray) (a1 : ByteArray) : Option ByteArray := if l0.length ≤ 140737488355328 then (if (Go.Lib.join (l0.map (·.data.toList)) a1.data.toList).length ≤ 140737488355328 then some ⟨(Go.Lib.join (l0.map (·.data.toList)) a1.data.toList).toArray⟩ else none) else none
set_option maxHeartbeats 1000000
open Go.RowKit Go.Lib Go.Proofs.YtnafjfdalapegaaW.PrintWords Go.Proofs.YtnafjfdalapegaaW.PrintLast Go.Proofs.YtnafjfdalapegaaW.PrintMore Go.Proofs.YtnafjfdalapegaaW Go.Proofs.Ytnafjfdalapegaa.Q
theorem strings_Join.calls (A0 : Option Addr) (c0 : Nat) (l0 : List ByteArray) (a1 : ByteArray) (r : ByteArray) (w : World) (hr0 : Kd.C Kd.string w A0 l0.length l0) (hc0 : l0.length ≤ c0) (h : strings_Join.f l0 a1 = some r) :
    Calls Try.prog 61 #[.slice A0 l0.length c0, .string a1] w fun e w' => e = .returned (.string r) ∧ Below w.heap.size w w' := by
  unfold strings_Join.f at h
  split at h
  · rename_i h1
    split at h
    · rename_i h2
      obtain rfl := Option.some.inj h
      rcases Nat.eq_zero_or_pos l0.length with h0 | h0
      · obtain rfl : l0 = [] := List.eq_nil_of_length_eq_zero h0
        refine (Try.strings_Join_none A0 c0 a1 w).mono ?_
        rintro e w' ⟨rfl, rfl⟩
        exact ⟨rfl, Below.refl _ _⟩
      · obtain ⟨b, off, rfl, hB, hcell⟩ := GIdx.C_spot hr0 h0 (by decide)
        refine Try.strings_Join b off c0 l0 a1 w (fun j x hx => ?_) hB h1 hc0 h2
        obtain ⟨cs, hl, hK, hcc⟩ := hcell j x hx
        have hK' : cs = [.string x] := hK
        subst hK'
        have := hcc 0 _ rfl
        rwa [Nat.add_zero, show Kd.string.sz = 1 from rfl, Nat.mul_one] at this
    · cases h
  · cases h


end Go.Proofs.Ytnafjfdalapegaa.Q
