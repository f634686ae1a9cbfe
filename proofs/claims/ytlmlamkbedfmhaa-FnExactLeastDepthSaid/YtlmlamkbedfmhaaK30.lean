-- Put together by wip/merge.py (a program of this session's) out of this claim's texts; Lean checks it.
import Derived.Test.YtlmlamkbedfmhaaK21
import Derived.Maps.OwnOps
import Derived.Maps.OwnSet
import Derived.Maps.Views
import Derived.Maps.RangeWalk
section
set_option linter.unusedVariables false
set_option linter.unusedSimpArgs false
namespace Go.Proofs.Ytlmlamkbedfmhaa.P
open Go Go.RowKit Go.Maps Go.Proofs.YtlmlamkbedfmhaaW.PrintWords Go.Proofs.YtlmlamkbedfmhaaW.PrintLast Go.Proofs.YtlmlamkbedfmhaaW.PrintMore

def mget : List (ByteArray × Int) → ByteArray → Int
  | [], _ => 0
  | e :: M, key => if e.1 = key then e.2 else mget M key
def mhas : List (ByteArray × Int) → ByteArray → Bool
  | [], _ => false
  | e :: M, key => if e.1 = key then true else mhas M key
def mapD : List (ByteArray × Int) → DataW Unit
  | [] => .map []
  | e :: M => (mapD M).put (.string e.1.data.toList) (.lit (.int .i64 e.2))
theorem mapD_is : ∀ M : List (ByteArray × Int), IsMap (mapD M)
  | [] => isMap_empty
  | e :: M => (mapD_is M).put _ _
theorem lit_ne {a b : ByteArray} (h : a ≠ b) : (Lit.string a.data.toList) ≠ .string b.data.toList := by
  intro e
  injection e with e
  exact h (ByteArray.ext (Array.toList_inj.1 e))
theorem mapD_at (key : ByteArray) : ∀ M : List (ByteArray × Int), (mapD M).atKey (.string key.data.toList) (.lit (.int .i64 0)) = .lit (.int .i64 (mget M key))
  | [] => by simp [mapD, DataW.atKey, mget]
  | e :: M => by
    unfold mapD mget
    by_cases h : e.1 = key
    · subst h
      rw [if_pos rfl]
      exact atKey_put_same (k := .string e.1.data.toList) (mapD_is M) trivial _ _
    · rw [if_neg h, atKey_put_other (lit_ne (fun z => h z.symm))]
      exact mapD_at key M
theorem mapD_has (key : ByteArray) : ∀ M : List (ByteArray × Int), has (mapD M) (.string key.data.toList) = mhas M key
  | [] => by simp [mapD, mhas, has_eq]
  | e :: M => by
    unfold mapD mhas
    by_cases h : e.1 = key
    · subst h
      rw [if_pos rfl]
      exact has_put_same (k := .string e.1.data.toList) (mapD_is M) trivial _
    · rw [if_neg h, has_put_other (lit_ne (fun z => h z.symm))]
      exact mapD_has key M
/-- An entry of a map's literal. -/
theorem wpList_insert_own {H : Type} {P : Program} (w : World) {ops : Array Oper} {rest : List Oper} {o : Oper} {a : Act} {Q : Exit → Act → World → Prop}
    (hg : o.guard = none) (m x v : Operand) (t : TypeId) (hop : o.op = Op.insert t m x v)
    (k e : TypeId) (K : Keyed P k) (ht : P.underlying t = some (.map k e)) (R : Value → Option (DataW H × List MemPlace)) (b n : Nat) (D : DataW H)
    (hm : a.eval m = .map (some b)) (hown : w.ownsMap P k R b n D) (hn : n < maxLen) (key val : Value) (kl : Lit) (hx : a.eval x = key) (hv : a.eval v = val) (hkey : keyOf P k key = some kl)
    (d : DataW H) (ps : List MemPlace) (hval : R val = some (d, ps))
    (hK : ∀ w', w'.ownsMap P k R b (n + 1) (D.put kl d) → w.grownBy w' (some b) → wpList P ops Q rest (a.put o.dst undef) w') :
    wpList P ops Q (o :: rest) a w := by
  refine wpList_plain hg fun K' hK' => ?_
  obtain ⟨w', hrun, r1, r2⟩ := hown.update K ht hn hkey hval
  unfold Oper.wp
  simp [execOp, hop, hm, hx, hv, hrun, Result.andThen]
  exact hK' _ _ (hK w' r1 r2)
end Go.Proofs.Ytlmlamkbedfmhaa.P
end
