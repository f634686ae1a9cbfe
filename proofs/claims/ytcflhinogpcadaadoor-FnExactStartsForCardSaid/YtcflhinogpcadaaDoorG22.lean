-- Put together by wip/merge.py (a program of this session's) out of this claim's texts; Lean checks it.
import Derived.Test.YtcflhinogpcadaaDoorProg
import Derived.Below
import Derived.Deep.Draws
import Derived.Deep.AppendLies
import Derived.Maps.AppendAt
import Derived.OwnWalk
import Derived.Laws.BytesArg
import Derived.Laws.MakeOwn
import Derived.Laws.OwnMore
import Derived.Deep.OwnRows
import Derived.Tactics
import Derived.Lib.ConvBytes
import Derived.Laws.Slices
import Derived.WalkKit
import Derived.KernelRfl
import Derived.RowKit3
import Derived.Deep.LoopGhost
import Derived.Deep.QuietTactic
import Derived.BigQuiet
import Derived.WideLaws
import Derived.Deep.DeepCutAuto
import Derived.Deep.CutBlock
import Derived.Deep.RegionHeld3
import Derived.Laws.Rows
import Derived.Lib.AppendStr
import Derived.ArgAppend
import Derived.Laws.IdiomCopy
import Derived.OrdersHeld
import Derived.Laws.BitsLemmas
import Derived.RowKit
import Derived.Test.YtcflhinogpcadaaDoorG1
import Derived.Test.YtcflhinogpcadaaDoorG2
import Derived.Test.YtcflhinogpcadaaDoorG13
import Derived.Test.YtcflhinogpcadaaDoorG14
import Derived.Test.YtcflhinogpcadaaDoorG3
import Derived.Test.YtcflhinogpcadaaDoorG4
import Derived.Test.YtcflhinogpcadaaDoorG5
import Derived.Test.YtcflhinogpcadaaDoorG6
import Derived.Test.YtcflhinogpcadaaDoorG7
import Derived.Test.YtcflhinogpcadaaDoorG8
import Derived.Test.YtcflhinogpcadaaDoorG9
import Derived.Test.YtcflhinogpcadaaDoorG10
import Derived.Test.YtcflhinogpcadaaDoorG15
import Derived.Test.YtcflhinogpcadaaDoorG16
import Derived.Test.YtcflhinogpcadaaDoorG17
import Derived.Test.YtcflhinogpcadaaDoorG18
import Derived.Test.YtcflhinogpcadaaDoorG19
import Derived.Test.YtcflhinogpcadaaDoorG20
import Derived.Test.YtcflhinogpcadaaDoorG21
import Derived.Test.YtcflhinogpcadaaDoorG11
import Derived.Test.YtcflhinogpcadaaDoorG12
section
namespace Go.Proofs.YtcflhinogpcadaaDoor.P
open Go.RowKit Go.Proofs.YtcflhinogpcadaaDoorW.PrintWords Go.Proofs.YtcflhinogpcadaaDoorW.PrintLast Go.Proofs.YtcflhinogpcadaaDoorW.PrintMore
attribute [local go_sem] max2_int min2_int max_two min_two max_three min_three max_four min_four   -- for this text's walks alone
set_option linter.unusedVariables false
set_option linter.unusedSimpArgs false

def errW : Option Int → Value
  | none => .nilIface
  | some c => .iface 0 (.int .i64 c)
theorem errW_none : errW none = .nilIface := rfl
theorem errW_some (c : Int) : errW (some c) = .iface 0 (.int .i64 c) := rfl

theorem info3 : (Tryd.prog.info? 3).map (fun i => (i.zero, i.size, i.bytes)) = some (some (.int .i64 0), 1, 8) := by kernel_rfl
theorem info5 : (Tryd.prog.info? 5).map (fun i => (i.zero, i.size, i.bytes)) = some (some (.int .u8 0), 1, 1) := by kernel_rfl
def rd_L1 (xs : List (List Int)) (i : Int) : (List Int) := xs.getD i.toNat ([] : List Int)
/-! #### struct type 28 -/
structure S28 where
  f0 : Int
  f1 : (List Int)
def z28 : S28 := ⟨(0 : Int), ([] : List Int)⟩
def k28 : Kd S28 := Kd.iso (Kd.pair (Kd.int .i64) (Kd.slice 3 (Kd.int .i64))) (fun x : S28 => (x.f0, x.f1))
def rd_T28 (xs : List S28) (i : Int) : S28 := xs.getD i.toNat z28
end Go.Proofs.YtcflhinogpcadaaDoor.P
end
