/- Ladders: that one is one, by the program and by the reference. -/
import Derived.Test.YtlmlamkbedfmhaaUHelp
import Derived.Test.YtlmlamkbedfmhaaF90
import Derived.Test.YtlmlamkbedfmhaaF92
import Derived.Test.YtlmlamkbedfmhaaF91
import Derived.Test.YtlmlamkbedfmhaaF93
import Derived.Test.YtlmlamkbedfmhaaF95
set_option linter.unusedVariables false
set_option linter.unusedSimpArgs false
namespace Go.Proofs.Ytlmlamkbedfmhaa.P
open Go.RowKit Go.Proofs.YtlmlamkbedfmhaaW.PrintWords Go.Proofs.YtlmlamkbedfmhaaW.PrintLast Go.Proofs.YtlmlamkbedfmhaaW.PrintMore

theorem spec_l1In_eq (x lo hi : Int) : spec_l1In.f x lo hi = some (decide (lo ≤ x ∧ x ≤ hi)) := by
  unfold spec_l1In.f
  by_cases h : x ≥ lo
  · rw [if_pos h]; congr 1; by_cases h2 : x ≤ hi <;> simp [h2] <;> omega
  · rw [if_neg h]; congr 1; simp; omega
theorem impl_between_eq (x lo hi : Int) : impl_between.f x lo hi = some (decide (lo ≤ x ∧ x ≤ hi)) := impl_isLadder.betw x lo hi
theorem l1All_loop (l : List Int) (lo hi : Int) (hb : l.length ≤ 9223372036854775807) : ∀ d i : Nat, i + d = l.length → Ev (fun k => spec_l1All.l0 k lo hi l (l.length : Int) (i : Int)) ((l.drop i).all (fun r => decide (lo ≤ r ∧ r ≤ hi))) := by
  intro d
  induction d with
  | zero =>
    intro i hi'
    refine Ev.step (fun k => by rw [spec_l1All.l0]) ?_
    refine Ev.no (by omega) (Ev.ret ?_)
    rw [List.drop_eq_nil_of_le (by omega)]; rfl
  | succ d ih =>
    intro i hi'
    refine Ev.step (fun k => by rw [spec_l1All.l0]) ?_
    have ha : i < l.length := by omega
    refine Ev.yes (by omega) (Ev.yes (by omega) (Ev.yes (by omega) ?_))
    refine Ev.known (spec_l1In_eq _ _ _) ?_
    rw [rd_nat ha, w64i ha hb, List.drop_eq_getElem_cons ha, List.all_cons]
    cases h : decide (lo ≤ l[i] ∧ l[i] ≤ hi)
    · exact Ev.no (by simp) (Ev.ret (by simp))
    · exact Ev.yes rfl (Ev.eq (ih (i + 1) (by omega)) (by simp))
theorem l1All_ev (l : List Int) (lo hi : Int) (hb : l.length ≤ 9223372036854775807) : Ev (fun k => spec_l1All.f k l lo hi) (l.all (fun r => decide (lo ≤ r ∧ r ≤ hi))) := by
  unfold spec_l1All.f
  simpa using l1All_loop l lo hi hb l.length 0 (by omega)
theorem laGood_ev (n : Int) (l : List Int) (hb : l.length ≤ 9223372036854775807) : Ev (fun k => spec_laGood.f k n l) (ladderOk n l) := by
  unfold spec_laGood.f
  refine Ev.known (spec_l1In_eq _ _ _) ?_
  unfold ladderOk
  by_cases h : 2 ≤ n ∧ n ≤ 8
  · refine Ev.yes (by simp [h]) ?_
    by_cases h2 : l.length ≤ 60
    · refine Ev.yes (by omega) ?_
      rw [w64 (by omega) (by omega)]
      exact Ev.bind (l1All_ev l 0 (n - 2) hb) (Ev.ret (by simp [h, h2]))
    · exact Ev.no (by omega) (Ev.ret (by simp [h2]))
  · exact Ev.no (by simp; omega) (Ev.ret (by rw [decide_eq_false h]; rfl))
/-- A ladder if it is one, or none. -/
def ladderIf (n : Int) (l : List Int) : Int × List Int × Bool := if ladderOk n l = true then (n, l, true) else (0, [], false)
theorem laIf_ev (n : Int) (l : List Int) (hb : l.length ≤ 9223372036854775807) : Ev (fun k => spec_laIf.f k n l) (ladderIf n l) := by
  unfold spec_laIf.f ladderIf
  refine Ev.bind (laGood_ev n l hb) ?_
  by_cases h : ladderOk n l = true
  · exact Ev.yes h (Ev.ret (by rw [if_pos h]))
  · exact Ev.no h (Ev.ret (by rw [if_neg h]))
theorem checked_eq (n : Int) (l : List Int) : impl_checked.f n l = some (ladderIf n l) := by
  unfold impl_checked.f impl_isLadder.f ladderIf
  rw [Option.bind_some]
  by_cases h : ladderOk n l = true <;> simp [h]
theorem isLadder_eq (n : Int) (l : List Int) : impl_isLadder.f n l = some (ladderOk n l) := rfl
theorem l1Own_eq (l : List Int) (h : l.length < 17592186044416) : spec_l1Own.f l = some l := by
  unfold spec_l1Own.f
  simp [h]
theorem ladderOk_wires {n : Int} {l : List Int} (h : ladderOk n l = true) : 2 ≤ n ∧ n ≤ 8 := by
  unfold ladderOk at h; simp at h; omega
theorem ladderOk_len {n : Int} {l : List Int} (h : ladderOk n l = true) : l.length ≤ 60 := by
  unfold ladderOk at h; simp at h; omega
theorem ladderOk_mem {n : Int} {l : List Int} (h : ladderOk n l = true) {r : Int} (hr : r ∈ l) : 0 ≤ r ∧ r ≤ n - 2 := by
  unfold ladderOk at h; simp at h; exact h.2.2 r hr
theorem ladderOk_iff {n : Int} {l : List Int} : ladderOk n l = true ↔ 2 ≤ n ∧ n ≤ 8 ∧ l.length ≤ 60 ∧ ∀ r ∈ l, 0 ≤ r ∧ r ≤ n - 2 := by
  unfold ladderOk; simp [and_assoc]
end Go.Proofs.Ytlmlamkbedfmhaa.P
