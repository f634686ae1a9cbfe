-- Put together by wip/merge.py (a program of this session's) out of this claim's texts; Lean checks it.
import Derived.Test.YtlmlamkbedfmhaaK3
section
/-! ### 56. Four, five, six operations that may come up next, in any order -/
namespace Go.Proofs.YtlmlamkbedfmhaaW.PrintLast
section
variable {P : Program} {ops : Array Oper} {Q : Exit → Act → World → Prop} {md : Region.Mode} {S : World → Prop} {ds : List Nat} {T : Bool × List (List Nat × List Nat)}
end
end Go.Proofs.YtlmlamkbedfmhaaW.PrintLast
end
