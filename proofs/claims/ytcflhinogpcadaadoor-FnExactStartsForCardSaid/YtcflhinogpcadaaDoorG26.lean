-- Put together by wip/merge.py (a program of this session's) out of this claim's texts; Lean checks it.
import Derived.Test.YtcflhinogpcadaaDoorG22
import Derived.Test.YtcflhinogpcadaaDoorG23
import Derived.Test.YtcflhinogpcadaaDoorTrimLay
section
namespace Go.Proofs.YtcflhinogpcadaaDoor.P
open Go.RowKit Go.Proofs.YtcflhinogpcadaaDoorW.PrintWords Go.Proofs.YtcflhinogpcadaaDoorW.PrintLast Go.Proofs.YtcflhinogpcadaaDoorW.PrintMore
attribute [local go_sem] max2_int min2_int max_two min_two max_three min_three max_four min_four   -- for this text's walks alone
set_option linter.unusedVariables false
set_option linter.unusedSimpArgs false

/-! ### strings_Trim: function 27 -/
def asciiOnly (c : ByteArray) : Bool := c.data.toList.all (fun b => decide (b.toNat < 128)) && decide (c.size < 4294967281)
def strings_Trim.f (a0 a1 : ByteArray) : Option ByteArray := if a0.size ≤ 9223372036854775807 then (if asciiOnly a1 = true then some ⟨(Lib.trimS a0.data.toList a1.data.toList).toArray⟩ else none) else none
set_option maxRecDepth 100000 in
theorem strings_Trim.calls (a0 : ByteArray) (a1 : ByteArray) (r : ByteArray) (w : World) (h : strings_Trim.f a0 a1 = some r) :
    Calls Tryd.prog 27 #[.string a0, .string a1] w fun e w' => e = .returned (.string r) ∧ Below w.heap.size w w' := by
  unfold strings_Trim.f at h
  by_cases c : a0.size ≤ 9223372036854775807
  · rw [if_pos c] at h
    by_cases c2 : asciiOnly a1 = true
    · rw [if_pos c2] at h
      obtain rfl := Option.some.inj h
      unfold asciiOnly at c2
      rw [Bool.and_eq_true] at c2
      exact Go.Proofs.Any.strings_Trim_laid Tryd.lays160 (by kernel_rfl) a0 a1 w c (of_decide_eq_true c2.2) (Go.Proofs.ascii_of_all c2.1)
    · rw [if_neg c2] at h; exact absurd h (by simp)
  · rw [if_neg c] at h; exact absurd h (by simp)

end Go.Proofs.YtcflhinogpcadaaDoor.P
end
