/- The laws' own helpers: copies, equality, marks. -/
import Derived.Test.YtlmlamkbedfmhaaUBase
import Derived.Test.YtlmlamkbedfmhaaF89
import Derived.Test.YtlmlamkbedfmhaaF23
import Derived.Test.YtlmlamkbedfmhaaF19
import Derived.Test.YtlmlamkbedfmhaaF20
import Derived.Test.YtlmlamkbedfmhaaF21
set_option linter.unusedVariables false
set_option linter.unusedSimpArgs false
namespace Go.Proofs.Ytlmlamkbedfmhaa.P
open Go.RowKit Go.Proofs.YtlmlamkbedfmhaaW.PrintWords Go.Proofs.YtlmlamkbedfmhaaW.PrintLast Go.Proofs.YtlmlamkbedfmhaaW.PrintMore

theorem eqIntS_loop (a b : List Int) (hl : a.length = b.length) (hb : a.length ≤ 9223372036854775807) : ∀ d i : Nat, i + d = a.length → Ev (fun k => laws_eqIntS.l0 k a b (i : Int)) (decide (a.drop i = b.drop i)) := by
  intro d
  induction d with
  | zero =>
    intro i hi
    refine Ev.step (fun k => by rw [laws_eqIntS.l0]) ?_
    refine Ev.no (by omega) (Ev.ret ?_)
    rw [List.drop_eq_nil_of_le (by omega), List.drop_eq_nil_of_le (by omega)]; rfl
  | succ d ih =>
    intro i hi
    refine Ev.step (fun k => by rw [laws_eqIntS.l0]) ?_
    refine Ev.yes (by omega) (Ev.yes (by omega) (Ev.yes (by omega) ?_))
    have ha : i < a.length := by omega
    have hb' : i < b.length := by omega
    rw [rd_nat ha, rd_nat hb', w64i ha hb]
    have e : (a.drop i = b.drop i) ↔ (a[i] = b[i] ∧ a.drop (i + 1) = b.drop (i + 1)) := by
      rw [List.drop_eq_getElem_cons ha, List.drop_eq_getElem_cons hb', List.cons.injEq]
    by_cases h : a[i] = b[i]
    · refine Ev.yes h (Ev.eq (ih (i + 1) (by omega)) ?_)
      simp only [e, h, true_and]
    · refine Ev.no h (Ev.ret ?_)
      simp only [e, h, false_and, decide_false]
theorem eqIntS_ev (a b : List Int) (hb : a.length ≤ 9223372036854775807) : Ev (fun k => laws_eqIntS.f k a b) (decide (a = b)) := by
  unfold laws_eqIntS.f
  by_cases h : a.length = b.length
  · refine Ev.yes (by omega) ?_
    exact Ev.eq (eqIntS_loop a b h hb a.length 0 (by omega)) (by simp)
  · refine Ev.no (by omega) (Ev.ret ?_)
    symm
    rw [decide_eq_false_iff_not]
    rintro rfl
    exact h rfl

theorem toIntS_loop (a : List Int) (hb : a.length ≤ 9223372036854775807) : ∀ d i : Nat, i + d = a.length → Ev (fun k => laws_toIntS.l0 k a (a.take i ++ List.replicate d 0) (i : Int)) a := by
  intro d
  induction d with
  | zero =>
    intro i hi
    refine Ev.step (fun k => by rw [laws_toIntS.l0]) ?_
    refine Ev.no (by omega) (Ev.ret ?_)
    obtain rfl : i = a.length := by omega
    simp
  | succ d ih =>
    intro i hi
    refine Ev.step (fun k => by rw [laws_toIntS.l0]) ?_
    have ha : i < a.length := by omega
    refine Ev.yes (by omega) (Ev.yes (by omega) (Ev.yes (by simp; omega) ?_))
    rw [rd_nat ha, w64i ha hb, Int.toNat_natCast]
    have e : (a.take i ++ List.replicate (d + 1) 0).set i a[i] = a.take (i + 1) ++ List.replicate d 0 := by
      rw [List.set_append_right _ _ (by simp; omega)]
      have : i - (a.take i).length = 0 := by simp; omega
      rw [this, List.replicate_succ, List.set_cons_zero, List.take_add_one, List.getElem?_eq_getElem ha, Option.toList_some, List.append_assoc, List.singleton_append]
    rw [e]
    exact ih (i + 1) (by omega)
theorem toIntS_ev (a : List Int) (hb : a.length ≤ 35184372088832) : Ev (fun k => laws_toIntS.f k a) a := by
  unfold laws_toIntS.f
  refine Ev.yes (by omega) (Ev.yes (by omega) ?_)
  have := toIntS_loop a (by omega) a.length 0 (by omega)
  simpa using this

/-- What marking leaves: the numbers from a on. -/
def ramp (a : Int) (n : Nat) : List Int := (List.range n).map fun j => a + (j : Nat)
theorem ramp_length (a : Int) (n : Nat) : (ramp a n).length = n := by simp [ramp]
theorem ramp_at {a : Int} {n j : Nat} (h : j < n) : rd (ramp a n) j = a + j := by
  rw [rd_nat (by rw [ramp_length]; exact h)]; simp [ramp]
theorem markIntS_loop (l : List Int) (a : Int) (h0 : 0 ≤ a) (h1 : a + l.length ≤ 9223372036854775807) : ∀ d i : Nat, i + d = l.length → Ev (fun k => laws_markIntS.l0 k (ramp a i ++ l.drop i) (a + i) (i : Int)) (a + l.length, ramp a l.length) := by
  intro d
  induction d with
  | zero =>
    intro i hi
    obtain rfl : i = l.length := by omega
    refine Ev.step (fun k => by rw [laws_markIntS.l0]) ?_
    refine Ev.no (by simp [ramp_length]) (Ev.ret ?_)
    simp
  | succ d ih =>
    intro i hi
    refine Ev.step (fun k => by rw [laws_markIntS.l0]) ?_
    have ha : i < l.length := by omega
    refine Ev.yes (by simp [ramp_length]; omega) (Ev.yes (by omega) ?_)
    rw [w64i ha (by omega), w64 (by omega) (by omega), Int.toNat_natCast]
    have e : (ramp a i ++ l.drop i).set i (a + i) = ramp a (i + 1) ++ l.drop (i + 1) := by
      rw [List.set_append_right _ _ (by rw [ramp_length]; omega), ramp_length, Nat.sub_self, List.drop_eq_getElem_cons ha, List.set_cons_zero]
      simp [ramp, List.range_succ]
    rw [e]
    have e2 : a + (i : Int) + 1 = a + ((i + 1 : Nat) : Int) := by omega
    rw [e2]
    exact ih (i + 1) (by omega)
theorem markIntS_ev (l : List Int) (a : Int) (h0 : 0 ≤ a) (h1 : a + l.length ≤ 9223372036854775807) : Ev (fun k => laws_markIntS.f k l a) (a + l.length, ramp a l.length) := by
  unfold laws_markIntS.f
  simpa [ramp] using markIntS_loop l a h0 h1 l.length 0 (by omega)
theorem heldIntS_loop (a : Int) (n : Nat) (h0 : 0 ≤ a) (h1 : a + n ≤ 9223372036854775807) : ∀ d i : Nat, i + d = n → Ev (fun k => laws_heldIntS.l0 k (ramp a n) (a + i) (i : Int)) (a + n) := by
  intro d
  induction d with
  | zero =>
    intro i hi
    obtain rfl : i = n := by omega
    refine Ev.step (fun k => by rw [laws_heldIntS.l0]) ?_
    exact Ev.no (by simp [ramp_length]) (Ev.ret rfl)
  | succ d ih =>
    intro i hi
    refine Ev.step (fun k => by rw [laws_heldIntS.l0]) ?_
    have ha : i < n := by omega
    refine Ev.yes (by rw [ramp_length]; omega) (Ev.yes (by omega) (Ev.yes (ramp_at ha) ?_))
    rw [w64i ha (by omega), w64 (by omega) (by omega)]
    have e2 : a + (i : Int) + 1 = a + ((i + 1 : Nat) : Int) := by omega
    rw [e2]
    exact ih (i + 1) (by omega)
theorem heldIntS_ev (a : Int) (n : Nat) (h0 : 0 ≤ a) (h1 : a + n ≤ 9223372036854775807) : Ev (fun k => laws_heldIntS.f k (ramp a n) a) (a + n) := by
  unfold laws_heldIntS.f
  simpa using heldIntS_loop a n h0 h1 n 0 (by omega)
end Go.Proofs.Ytlmlamkbedfmhaa.P
