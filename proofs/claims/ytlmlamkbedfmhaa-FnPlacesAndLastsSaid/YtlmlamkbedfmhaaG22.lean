-- Put together by wip/merge.py (a program of this session's) out of this claim's texts; Lean checks it.
import Derived.Test.YtlmlamkbedfmhaaProg
import Derived.Below
import Derived.Deep.Draws
import Derived.Deep.AppendLies
import Derived.Maps.AppendAt
import Derived.OwnWalk
import Derived.Laws.BytesArg
import Derived.Laws.MakeOwn
import Derived.Laws.OwnMore
import Derived.Deep.OwnRows
import Derived.Tactics
import Derived.Lib.ConvBytes
import Derived.Laws.Slices
import Derived.WalkKit
import Derived.KernelRfl
import Derived.RowKit3
import Derived.Deep.LoopGhost
import Derived.Deep.QuietTactic
import Derived.BigQuiet
import Derived.WideLaws
import Derived.Deep.DeepCutAuto
import Derived.Deep.CutBlock
import Derived.Deep.RegionHeld3
import Derived.Laws.Rows
import Derived.Lib.AppendStr
import Derived.ArgAppend
import Derived.Laws.IdiomCopy
import Derived.OrdersHeld
import Derived.Laws.BitsLemmas
import Derived.RowKit
import Derived.Test.YtlmlamkbedfmhaaG1
import Derived.Test.YtlmlamkbedfmhaaG2
import Derived.Test.YtlmlamkbedfmhaaG3
import Derived.Test.YtlmlamkbedfmhaaG4
import Derived.Test.YtlmlamkbedfmhaaG5
import Derived.Test.YtlmlamkbedfmhaaG6
import Derived.Test.YtlmlamkbedfmhaaG7
import Derived.Test.YtlmlamkbedfmhaaG8
import Derived.Test.YtlmlamkbedfmhaaG9
import Derived.Test.YtlmlamkbedfmhaaG10
import Derived.Test.YtlmlamkbedfmhaaG11
import Derived.Test.YtlmlamkbedfmhaaG12
import Derived.Test.YtlmlamkbedfmhaaG13
import Derived.Test.YtlmlamkbedfmhaaG14
import Derived.Test.YtlmlamkbedfmhaaG15
import Derived.Test.YtlmlamkbedfmhaaG16
import Derived.Test.YtlmlamkbedfmhaaG17
import Derived.Test.YtlmlamkbedfmhaaG18
import Derived.Test.YtlmlamkbedfmhaaG19
import Derived.Test.YtlmlamkbedfmhaaG20
import Derived.Test.YtlmlamkbedfmhaaG21
section
namespace Go.Proofs.Ytlmlamkbedfmhaa.P
open Go.RowKit Go.Proofs.YtlmlamkbedfmhaaW.PrintWords Go.Proofs.YtlmlamkbedfmhaaW.PrintLast Go.Proofs.YtlmlamkbedfmhaaW.PrintMore
attribute [local go_sem] max2_int min2_int max_two min_two max_three min_three max_four min_four   -- for this text's walks alone
set_option linter.unusedVariables false
set_option linter.unusedSimpArgs false

def errW : Option Int → Value
  | none => .nilIface
  | some c => .iface 0 (.int .i64 c)
theorem errW_none : errW none = .nilIface := rfl
theorem errW_some (c : Int) : errW (some c) = .iface 0 (.int .i64 c) := rfl

theorem info3 : (Try.prog.info? 3).map (fun i => (i.zero, i.size, i.bytes)) = some (some (.int .i64 0), 1, 8) := by kernel_rfl
theorem info4 : (Try.prog.info? 4).map (fun i => (i.zero, i.size, i.bytes)) = some (some (.bool false), 1, 1) := by kernel_rfl
theorem info22 : (Try.prog.info? 22).map (fun i => (i.zero, i.size, i.bytes)) = some (some (.slice none 0 0), 1, 24) := by kernel_rfl
def rd_L3 (xs : List (List Int)) (i : Int) : (List Int) := xs.getD i.toNat ([] : List Int)
/-! #### struct type 26 -/
structure S26 where
  f0 : Int
  f1 : (List Int)
def z26 : S26 := ⟨(0 : Int), ([] : List Int)⟩
def k26 : Kd S26 := Kd.iso (Kd.pair (Kd.int .i64) (Kd.slice 3 (Kd.int .i64))) (fun x : S26 => (x.f0, x.f1))
def rd_T26 (xs : List S26) (i : Int) : S26 := xs.getD i.toNat z26
end Go.Proofs.Ytlmlamkbedfmhaa.P
end
