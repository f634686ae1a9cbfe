-- Put together by wip/merge.py (a program of this session's) out of this claim's texts; Lean checks it.
import Derived.Test.YtlmlamkbedfmhaaK27
import Derived.Laws.MathBits
import Derived.Test.YtlmlamkbedfmhaaK28
section
set_option linter.unusedVariables false
set_option linter.unusedSimpArgs false
namespace Go.Proofs.Ytlmlamkbedfmhaa.P
open Go Go.RowKit Go.Proofs.YtlmlamkbedfmhaaW.PrintWords Go.Proofs.YtlmlamkbedfmhaaW.PrintLast Go.Proofs.YtlmlamkbedfmhaaW.PrintMore

/-- The bytes that came in. -/
def bytesOk (l : List Int) : Prop := (∀ x ∈ l, (Lit.int .u8 x).wf = true) ∧ l.length ≤ 1048576
/-- A place in the bytes, no further than b. -/
def at_ (b : Nat) (s : Int) : Prop := 0 ≤ s ∧ s ≤ b ∧ b ≤ 1000000000
/-! ### orders, and ladders out of them -/
/-- Two neighbours in the wrong order are put right. -/
def swapAt (p : List Int) (j : Nat) : List Int := match p, j with
  | a :: b :: t, 0 => b :: a :: t
  | a :: t, j + 1 => a :: swapAt t j
  | p, _ => p
theorem swapAt_perm (p : List Int) (j : Nat) : (swapAt p j).Perm p := by
  fun_induction swapAt p j with
  | case1 => exact List.Perm.swap _ _ _
  | case2 a t j ih => exact List.Perm.cons _ ih
  | case3 => exact List.Perm.refl _
theorem swapAt_inv : ∀ (p : List Int) (j : Nat) (h : j + 1 < p.length), p[j + 1] < p[j] → inv (swapAt p j) + 1 = inv p := by
  intro p
  induction p with
  | nil => intro j h; simp at h
  | cons a t ih =>
    intro j h hlt
    cases j with
    | zero =>
      cases t with
      | nil => simp at h
      | cons b t =>
        simp only [List.getElem_cons_succ, List.getElem_cons_zero] at hlt
        have e : swapAt (a :: b :: t) 0 = b :: a :: t := rfl
        rw [e]
        simp only [inv, List.countP_cons]
        have h1 : ¬ a < b := by omega
        simp [hlt, h1]; omega
    | succ j =>
      have e : swapAt (a :: t) (j + 1) = a :: swapAt t j := by cases t <;> rfl
      rw [e, inv, inv, (swapAt_perm t j).countP_eq]
      have := ih j (by simp at h; omega) (by simpa using hlt)
      omega
theorem swapAt_set : ∀ (p : List Int) (j : Nat) (h : j + 1 < p.length), (p.set j p[j + 1]).set (j + 1) p[j] = swapAt p j := by
  intro p
  induction p with
  | nil => intro j h; simp at h
  | cons a t ih =>
    intro j h
    cases j with
    | zero =>
      cases t with
      | nil => simp at h
      | cons b t => rfl
    | succ j =>
      have e : swapAt (a :: t) (j + 1) = a :: swapAt t j := by cases t <;> rfl
      rw [e, ← ih j (by simp at h; omega)]; simp
theorem alSwap_eq (p : List Int) (j : Nat) (h : j + 1 < p.length) (hp : p.length ≤ 1000) : spec_alSwap.f p (j : Int) = some (swapAt p j) := by
  unfold spec_alSwap.f
  rw [l1Own_eq _ (by omega), Option.bind_some, w64 (by omega) (by omega)]
  have e : (j : Int) + 1 = ((j + 1 : Nat) : Int) := by omega
  rw [e]
  have c1 : (0 : Int) ≤ ((j + 1 : Nat) : Int) := by omega
  have c2 : ((j + 1 : Nat) : Int) < (p.length : Int) := by omega
  have c3 : (0 : Int) ≤ (j : Int) := by omega
  have c4 : (j : Int) < (p.length : Int) := by omega
  simp only [c1, c2, c3, c4, if_true, Int.toNat_natCast]
  rw [rd_nat h, rd_nat (show j < p.length by omega), swapAt_set p j h]
/-- Places where neighbours stand the wrong way round. -/
def wrongs (p ds : List Int) : Prop := ∀ x ∈ ds, ∃ i : Nat, x = i ∧ ∃ h : i + 1 < p.length, p[i + 1] < p[i]
end Go.Proofs.Ytlmlamkbedfmhaa.P
end
