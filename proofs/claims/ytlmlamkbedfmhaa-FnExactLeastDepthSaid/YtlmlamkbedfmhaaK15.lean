-- Put together by wip/merge.py (a program of this session's) out of this claim's texts; Lean checks it.
import Derived.Test.YtlmlamkbedfmhaaK1
import Derived.Laws.StructEq
section
/-! ### 53. '==' of structs as_ one Bool -/
namespace Go.Proofs.YtlmlamkbedfmhaaW.PrintWords
open Go.RowKit
section
variable {P : Program} {d : Nat} {xs ys : Array Value} {f : Field} {fs : List Field} {a b : Value} {r s : Bool} {w : World}
end
end Go.Proofs.YtlmlamkbedfmhaaW.PrintWords
end
