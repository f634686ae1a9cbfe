-- Put together by wip/merge.py (a program of this session's) out of this claim's texts; Lean checks it.
import Derived.Test.YtlmlamkbedfmhaaG27
section
set_option linter.unusedVariables false
set_option linter.unusedSimpArgs false
namespace Go.Proofs.Ytlmlamkbedfmhaa.P
open Go.RowKit Go.Proofs.YtlmlamkbedfmhaaW.PrintWords Go.Proofs.YtlmlamkbedfmhaaW.PrintLast Go.Proofs.YtlmlamkbedfmhaaW.PrintMore

/-- The places behind each rung. -/
def steps (x : Int) : List Int → List Int
  | [] => []
  | r :: t => over x r :: steps (over x r) t
theorem steps_length (x : Int) (l : List Int) : (steps x l).length = l.length := by
  induction l generalizing x with
  | nil => rfl
  | cons r t ih => simp [steps, ih]
theorem steps_last (x : Int) (l : List Int) : rd (x :: steps x l) (l.length : Nat) = l.foldl over x := by
  rw [rd_nat']
  induction l generalizing x with
  | nil => rfl
  | cons r t ih => rw [steps, List.length_cons, List.getD_cons_succ, ih]; rfl
/-- Rungs of n wires, not too many. -/
def rungsOk (n : Nat) (l : List Int) : Prop := (∀ r ∈ l, 0 ≤ r ∧ r + 1 < n) ∧ l.length ≤ 1000
theorem way_loop (n : Nat) (hn8 : n ≤ 8) (l : List Int) (h : rungsOk n l) : ∀ d i : Nat, i + d = l.length → ∀ (x : Int) (acc : List Int), acc.length ≤ i + 1 →
    Ev (fun k => impl_way.l0 k x acc l (l.length : Int) (i : Int)) (acc ++ steps x (l.drop i)) := by
  have hl := h.2
  intro d
  induction d with
  | zero =>
    intro i hi x acc ha
    refine Ev.step (fun k => by rw [impl_way.l0]) ?_
    refine Ev.no (by omega) (Ev.ret ?_)
    rw [List.drop_eq_nil_of_le (by omega)]; simp [steps]
  | succ d ih =>
    intro i hi x acc ha
    have hi' : i < l.length := by omega
    have hr := h.1 l[i] (List.getElem_mem hi')
    refine Ev.step (fun k => by rw [impl_way.l0]) ?_
    refine Ev.yes (by omega) (Ev.yes (by omega) (Ev.yes (by omega) ?_))
    rw [rd_nat hi', w64i hi' (by omega)]
    refine Ev.known (impl_over_eq (by omega) (by omega)) (Ev.yes (by omega) ?_)
    refine Ev.eq (ih (i + 1) (by omega) _ _ (by simp; omega)) ?_
    rw [List.drop_eq_getElem_cons hi', steps, List.append_assoc]; rfl
theorem way_ev (n : Nat) (hn8 : n ≤ 8) (w : Int) (l : List Int) (h : rungsOk n l) (x : Int) : Ev (fun k => impl_way.f k w l x) (x :: steps x l) := by
  unfold impl_way.f
  simpa using way_loop n hn8 l h l.length 0 (by omega) x [x] (by simp)
theorem result_loop (n : Nat) (hn8 : n ≤ 8) (l : List Int) (h : rungsOk n l) : ∀ d i : Nat, i + d = n →
    Ev (fun k => impl_result.l0 k (n : Int) l ((List.range i).map fun x => l.foldl over ((x : Nat) : Int)) (n : Int) (i : Int)) (ends n l) := by
  have hl := h.2
  intro d
  induction d with
  | zero =>
    intro i hi
    obtain rfl : i = n := by omega
    refine Ev.step (fun k => by rw [impl_result.l0]) ?_
    exact Ev.no (by omega) (Ev.ret rfl)
  | succ d ih =>
    intro i hi
    refine Ev.step (fun k => by rw [impl_result.l0]) ?_
    refine Ev.yes (by omega) (Ev.bind (way_ev n hn8 _ l h _) ?_)
    have e : ((((i : Nat) : Int) :: steps (i : Nat) l).length : Int) = (l.length : Int) + 1 := by simp [steps_length]
    rw [e, w64 (show -9223372036854775808 ≤ (l.length : Int) + 1 - 1 by omega) (by omega)]
    have e2 : (l.length : Int) + 1 - 1 = (l.length : Nat) := by omega
    rw [e2, steps_last, w64i (show i < n by omega) (by omega)]
    refine Ev.yes (by omega) (Ev.yes (by omega) (Ev.yes (by simp; omega) ?_))
    have := ih (i + 1) (by omega)
    rw [List.range_succ, List.map_append] at this
    exact this
theorem result_ev (n : Nat) (hn8 : n ≤ 8) (l : List Int) (h : rungsOk n l) : Ev (fun k => impl_result.f k (n : Int) l) (ends n l) := by
  unfold impl_result.f
  exact result_loop n hn8 l h n 0 (by omega)
theorem down_loop (n : Nat) (hn8 : n ≤ 8) (l : List Int) (h : rungsOk n l) : ∀ d i : Nat, i + d = l.length → ∀ (x : Int) (acc : List Int), acc.length ≤ i + 1 →
    Ev (fun k => spec_laDown.l0 k x acc l (l.length : Int) (i : Int)) (acc ++ steps x (l.drop i)) := by
  have hl := h.2
  intro d
  induction d with
  | zero =>
    intro i hi x acc ha
    refine Ev.step (fun k => by rw [spec_laDown.l0]) ?_
    refine Ev.no (by omega) (Ev.ret ?_)
    rw [List.drop_eq_nil_of_le (by omega)]; simp [steps]
  | succ d ih =>
    intro i hi x acc ha
    have hi' : i < l.length := by omega
    have hr := h.1 l[i] (List.getElem_mem hi')
    refine Ev.step (fun k => by rw [spec_laDown.l0]) ?_
    refine Ev.yes (by omega) (Ev.yes (by omega) (Ev.yes (by omega) ?_))
    rw [rd_nat hi', w64i hi' (by omega)]
    refine Ev.known (spec_laOver_eq (by omega) (by omega)) (Ev.yes (by omega) ?_)
    refine Ev.eq (ih (i + 1) (by omega) _ _ (by simp; omega)) ?_
    rw [List.drop_eq_getElem_cons hi', steps, List.append_assoc]; rfl
theorem down_ev (n : Nat) (hn8 : n ≤ 8) (l : List Int) (h : rungsOk n l) (x : Int) : Ev (fun k => spec_laDown.f k l x) (x :: steps x l) := by
  unfold spec_laDown.f
  simpa using down_loop n hn8 l h l.length 0 (by omega) x [x] (by simp)
theorem laResult_loop (n : Nat) (hn8 : n ≤ 8) (l : List Int) (h : rungsOk n l) : ∀ d i : Nat, i + d = n →
    Ev (fun k => spec_laResult.l0 k (n : Int) l ((List.range i).map fun x => l.foldl over ((x : Nat) : Int)) (i : Int)) (ends n l) := by
  have hl := h.2
  intro d
  induction d with
  | zero =>
    intro i hi
    obtain rfl : i = n := by omega
    refine Ev.step (fun k => by rw [spec_laResult.l0]) ?_
    exact Ev.no (by omega) (Ev.ret rfl)
  | succ d ih =>
    intro i hi
    refine Ev.step (fun k => by rw [spec_laResult.l0]) ?_
    refine Ev.yes (by omega) (Ev.bind (down_ev n hn8 l h _) ?_)
    have e : ((((i : Nat) : Int) :: steps (i : Nat) l).length : Int) = (l.length : Int) + 1 := by simp [steps_length]
    rw [e, steps_last, w64i (show i < n by omega) (by omega)]
    refine Ev.yes (by omega) (Ev.yes (by omega) (Ev.yes (by simp; omega) ?_))
    have := ih (i + 1) (by omega)
    rw [List.range_succ, List.map_append] at this
    exact this
theorem laResult_ev (n : Nat) (hn8 : n ≤ 8) (l : List Int) (h : rungsOk n l) : Ev (fun k => spec_laResult.f k (n : Int) l) (ends n l) := by
  unfold spec_laResult.f
  exact laResult_loop n hn8 l h n 0 (by omega)
/-! ### pairs out of order -/
theorem inverted_l1 (p : List Int) (hp : p.length ≤ 8) (i : Nat) (hi : i < p.length) (m : Nat)
    (next : ∀ acc : List (List Int), acc.length + inv (p.drop (i + 1)) ≤ m → ∃ q, Ev (fun k => impl_inverted.l0 k p acc (p.length : Int) ((i + 1 : Nat) : Int)) q ∧ q.length = acc.length + inv (p.drop (i + 1))) (hm : m ≤ 1000) :
    ∀ d j : Nat, j + d = p.length → ∀ acc : List (List Int), acc.length + (p.drop j).countP (fun y => decide (y < p[i])) + inv (p.drop (i + 1)) ≤ m →
      ∃ q, Ev (fun k => impl_inverted.l1 k p acc (i : Int) (j : Int) (p.length : Int) (i : Int)) q ∧ q.length = acc.length + (p.drop j).countP (fun y => decide (y < p[i])) + inv (p.drop (i + 1)) := by
  intro d
  induction d with
  | zero =>
    intro j hj acc ha
    obtain ⟨q, hq, hl⟩ := next acc (by omega)
    refine ⟨q, Ev.step (fun k => by rw [impl_inverted.l1]) (Ev.no (by omega) ?_), ?_⟩
    · rw [w64i hi (by omega)]; exact hq
    · rw [List.drop_eq_nil_of_le (show p.length ≤ j by omega)]; simpa using hl
  | succ d ih =>
    intro j hj acc ha
    have hj' : j < p.length := by omega
    rw [List.drop_eq_getElem_cons hj', List.countP_cons] at ha ⊢
    by_cases c : p[j] < p[i]
    · rw [if_pos (by simpa using c)] at ha ⊢
      obtain ⟨q, hq, hl⟩ := ih (j + 1) (by omega) (acc ++ [[(i : Int), (j : Int)]]) (by simp; omega)
      refine ⟨q, Ev.step (fun k => by rw [impl_inverted.l1]) (Ev.yes (by omega) (Ev.yes (by omega) (Ev.yes (by omega) (Ev.yes (by omega) ?_)))), by simp at hl; omega⟩
      rw [rd_nat hi, rd_nat hj', w64i hj' (by omega)]
      exact Ev.yes c (Ev.yes (by omega) hq)
    · rw [if_neg (by simpa using c)] at ha ⊢
      obtain ⟨q, hq, hl⟩ := ih (j + 1) (by omega) acc (by omega)
      refine ⟨q, Ev.step (fun k => by rw [impl_inverted.l1]) (Ev.yes (by omega) (Ev.yes (by omega) (Ev.yes (by omega) (Ev.yes (by omega) ?_)))), by omega⟩
      rw [rd_nat hi, rd_nat hj', w64i hj' (by omega)]
      exact Ev.no c hq
theorem inverted_l0 (p : List Int) (hp : p.length ≤ 8) : ∀ d i : Nat, i + d = p.length → ∀ acc : List (List Int), acc.length + inv (p.drop i) ≤ 1000 →
    ∃ q, Ev (fun k => impl_inverted.l0 k p acc (p.length : Int) (i : Int)) q ∧ q.length = acc.length + inv (p.drop i) := by
  intro d
  induction d with
  | zero =>
    intro i hi acc ha
    refine ⟨acc, Ev.step (fun k => by rw [impl_inverted.l0]) (Ev.no (by omega) (Ev.ret rfl)), ?_⟩
    rw [List.drop_eq_nil_of_le (by omega)]; rfl
  | succ d ih =>
    intro i hi acc ha
    have hi' : i < p.length := by omega
    rw [List.drop_eq_getElem_cons hi', inv] at ha ⊢
    obtain ⟨q, hq, hl⟩ := inverted_l1 p hp i hi' 1000 (fun acc h => ih (i + 1) (by omega) acc h) (by omega) (p.length - (i + 1)) (i + 1) (by omega) acc (by omega)
    refine ⟨q, Ev.step (fun k => by rw [impl_inverted.l0]) (Ev.yes (by omega) ?_), by omega⟩
    rw [w64i hi' (by omega)]; exact hq
theorem inversions_ev (p : List Int) (hp : p.length ≤ 8) : Ev (fun k => impl_inversions.f k p) (inv p : Int) := by
  have b := inv_le p
  have b2 : p.length * p.length ≤ 8 * 8 := Nat.mul_le_mul hp hp
  obtain ⟨q, hq, hl⟩ := inverted_l0 p hp p.length 0 (by omega) [] (by simp; omega)
  unfold impl_inversions.f impl_inverted.f
  refine Ev.bind hq (Ev.ret ?_)
  simp at hl; omega
theorem lsInverted_l1 (p : List Int) (hp : p.length ≤ 8) (i : Nat) (hi : i < p.length) (m : Nat)
    (next : ∀ acc : List (List Int), acc.length + inv (p.drop (i + 1)) ≤ m → ∃ q, Ev (fun k => spec_lsInversions.l0 k p acc (p.length : Int) ((i + 1 : Nat) : Int)) q ∧ q.length = acc.length + inv (p.drop (i + 1))) (hm : m ≤ 1000) :
    ∀ d j : Nat, j + d = p.length → ∀ acc : List (List Int), acc.length + (p.drop j).countP (fun y => decide (y < p[i])) + inv (p.drop (i + 1)) ≤ m →
      ∃ q, Ev (fun k => spec_lsInversions.l1 k p acc (i : Int) (j : Int) (p.length : Int) (i : Int)) q ∧ q.length = acc.length + (p.drop j).countP (fun y => decide (y < p[i])) + inv (p.drop (i + 1)) := by
  intro d
  induction d with
  | zero =>
    intro j hj acc ha
    obtain ⟨q, hq, hl⟩ := next acc (by omega)
    refine ⟨q, Ev.step (fun k => by rw [spec_lsInversions.l1]) (Ev.no (by omega) ?_), ?_⟩
    · rw [w64i hi (by omega)]; exact hq
    · rw [List.drop_eq_nil_of_le (show p.length ≤ j by omega)]; simpa using hl
  | succ d ih =>
    intro j hj acc ha
    have hj' : j < p.length := by omega
    rw [List.drop_eq_getElem_cons hj', List.countP_cons] at ha ⊢
    by_cases c : p[j] < p[i]
    · rw [if_pos (by simpa using c)] at ha ⊢
      obtain ⟨q, hq, hl⟩ := ih (j + 1) (by omega) (acc ++ [[(i : Int), (j : Int)]]) (by simp; omega)
      refine ⟨q, Ev.step (fun k => by rw [spec_lsInversions.l1]) (Ev.yes (by omega) (Ev.yes (by omega) (Ev.yes (by omega) (Ev.yes (by omega) ?_)))), by simp at hl; omega⟩
      rw [rd_nat hi, rd_nat hj', w64i hj' (by omega)]
      exact Ev.yes c (Ev.yes (by omega) hq)
    · rw [if_neg (by simpa using c)] at ha ⊢
      obtain ⟨q, hq, hl⟩ := ih (j + 1) (by omega) acc (by omega)
      refine ⟨q, Ev.step (fun k => by rw [spec_lsInversions.l1]) (Ev.yes (by omega) (Ev.yes (by omega) (Ev.yes (by omega) (Ev.yes (by omega) ?_)))), by omega⟩
      rw [rd_nat hi, rd_nat hj', w64i hj' (by omega)]
      exact Ev.no c hq
theorem lsInverted_l0 (p : List Int) (hp : p.length ≤ 8) : ∀ d i : Nat, i + d = p.length → ∀ acc : List (List Int), acc.length + inv (p.drop i) ≤ 1000 →
    ∃ q, Ev (fun k => spec_lsInversions.l0 k p acc (p.length : Int) (i : Int)) q ∧ q.length = acc.length + inv (p.drop i) := by
  intro d
  induction d with
  | zero =>
    intro i hi acc ha
    refine ⟨acc, Ev.step (fun k => by rw [spec_lsInversions.l0]) (Ev.no (by omega) (Ev.ret rfl)), ?_⟩
    rw [List.drop_eq_nil_of_le (by omega)]; rfl
  | succ d ih =>
    intro i hi acc ha
    have hi' : i < p.length := by omega
    rw [List.drop_eq_getElem_cons hi', inv] at ha ⊢
    obtain ⟨q, hq, hl⟩ := lsInverted_l1 p hp i hi' 1000 (fun acc h => ih (i + 1) (by omega) acc h) (by omega) (p.length - (i + 1)) (i + 1) (by omega) acc (by omega)
    refine ⟨q, Ev.step (fun k => by rw [spec_lsInversions.l0]) (Ev.yes (by omega) ?_), by omega⟩
    rw [w64i hi' (by omega)]; exact hq
theorem lsInversions_ev (p : List Int) (hp : p.length ≤ 8) : ∃ q, Ev (fun k => spec_lsInversions.f k p) q ∧ q.length = inv p := by
  have b := inv_le p
  have b2 : p.length * p.length ≤ 8 * 8 := Nat.mul_le_mul hp hp
  obtain ⟨q, hq, hl⟩ := lsInverted_l0 p hp p.length 0 (by omega) [] (by simp; omega)
  exact ⟨q, by unfold spec_lsInversions.f; exact hq, by simpa using hl⟩
/-! ### what is needless, and ladders that last -/
theorem ladder_rungs {n : Nat} {l : List Int} (h : ladderOk (n : Int) l = true) : 2 ≤ n ∧ n ≤ 8 ∧ l.length ≤ 60 ∧ rungsOk n l := by
  have := ladderOk_iff.1 h
  refine ⟨by omega, by omega, this.2.2.1, ?_, by omega⟩
  intro r hr
  have := this.2.2.2 r hr; omega
theorem ends_length (n : Nat) (l : List Int) : (ends n l).length = n := by simp [ends]
theorem needless_ev (n : Nat) (hn8 : n ≤ 8) (l : List Int) (h : rungsOk n l) : Ev (fun k => impl_needless.f k (n : Int) l) ((l.length : Int) - (inv (ends n l) : Int)) := by
  have hl := h.2
  have b := inv_le (ends n l)
  rw [ends_length] at b
  have b2 : n * n ≤ 8 * 8 := Nat.mul_le_mul hn8 hn8
  unfold impl_needless.f
  refine Ev.bind (result_ev n hn8 l h) (Ev.bind (inversions_ev _ (by rw [ends_length]; exact hn8)) (Ev.ret ?_))
  rw [w64 (by omega) (by omega)]
def lasting (n : Int) (l : List Int) : Bool := ladderOk n l && decide (l.length = inv (ends n.toNat l))
theorem gaLasting_ev (n : Int) (l : List Int) (hb : l.length ≤ 9223372036854775807) : Ev (fun k => spec_gaLasting.f k n l) (lasting n l) := by
  unfold spec_gaLasting.f lasting
  refine Ev.bind (laGood_ev n l hb) ?_
  by_cases h : ladderOk n l = true
  · obtain ⟨m, rfl⟩ : ∃ m : Nat, n = m := ⟨n.toNat, by have := ladderOk_wires h; omega⟩
    have g := ladder_rungs h
    refine Ev.yes h (Ev.bind (laResult_ev m g.2.1 l g.2.2.2) ?_)
    obtain ⟨q, hq, hl⟩ := lsInversions_ev (ends m l) (by rw [ends_length]; omega)
    refine Ev.bind hq (Ev.ret ?_)
    rw [hl, h, Int.toNat_natCast, Bool.true_and]
    by_cases c : l.length = inv (ends m l)
    · simp [c]
    · simp [c]; omega
  · exact Ev.no h (Ev.ret (by simp [h]))
/-! ### back -/
def backUpTo (n : Nat) (p : List Int) (i : Nat) : List Int := (List.range n).map fun v => if ((v : Nat) : Int) ∈ p.take i then (p.idxOf ((v : Nat) : Int) : Int) else 0
theorem idx_at {p : List Int} (h : p.Nodup) {i : Nat} (hi : i < p.length) : p.idxOf p[i] = i := List.Nodup.idxOf_getElem h i hi
theorem back_loop (n : Nat) (hn8 : n ≤ 8) (p : List Int) (h : isP n p) : ∀ d i : Nat, i + d = n →
    Ev (fun k => spec_laBack.l0 k (backUpTo n p i) p (n : Int) (i : Int)) (backUpTo n p n) := by
  have hl := h.1
  intro d
  induction d with
  | zero =>
    intro i hi
    obtain rfl : i = n := by omega
    refine Ev.step (fun k => by rw [spec_laBack.l0]) ?_
    exact Ev.no (by omega) (Ev.ret rfl)
  | succ d ih =>
    intro i hi
    have hi' : i < p.length := by omega
    have hr := (h.2.2 p[i]).1 (List.getElem_mem hi')
    refine Ev.step (fun k => by rw [spec_laBack.l0]) ?_
    refine Ev.yes (by omega) (Ev.yes (by omega) (Ev.yes (by omega) ?_))
    rw [rd_nat hi', w64i hi' (by omega)]
    refine Ev.yes (by omega) (Ev.yes (by simp [backUpTo]; omega) ?_)
    have e : (backUpTo n p i).set p[i].toNat (i : Int) = backUpTo n p (i + 1) := by
      apply List.ext_getElem
      · simp [backUpTo]
      · intro v h1 h2
        have hv : v < n := by simpa [backUpTo] using h2
        simp only [backUpTo, List.getElem_set, List.getElem_map, List.getElem_range, ← take_snoc hi', List.mem_append, List.mem_singleton]
        by_cases c : p[i].toNat = v
        · have c2 : ((v : Nat) : Int) = p[i] := by omega
          rw [if_pos c, if_pos (.inr c2), c2, idx_at h.2.1 hi']
        · have c2 : ¬ ((v : Nat) : Int) = p[i] := by omega
          rw [if_neg c]; simp only [c2, or_false]
    rw [e]
    exact ih (i + 1) (by omega)
theorem back_ev (n : Nat) (hn8 : n ≤ 8) (p : List Int) (h : isP n p) : Ev (fun k => spec_laBack.f k p) (backUpTo n p n) := by
  have hl := h.1
  unfold spec_laBack.f
  rw [hl]
  refine Ev.yes (by omega) (Ev.yes (by omega) ?_)
  have := back_loop n hn8 p h n 0 (by omega)
  have e : backUpTo n p 0 = List.replicate (((n : Nat) : Int)).toNat 0 := by
    apply List.ext_getElem
    · simp [backUpTo]
    · intro v h1 h2; simp [backUpTo]
  rw [← e]; exact this
theorem back_at {n : Nat} {p : List Int} (h : isP n p) {v : Nat} (hv : v < n) : rd (backUpTo n p n) ((v : Nat) : Int) = (p.idxOf ((v : Nat) : Int) : Int) := by
  rw [rd_nat (by simp [backUpTo]; omega)]
  have m : ((v : Nat) : Int) ∈ p := (h.2.2 _).2 (by omega)
  simp [backUpTo, List.take_of_length_le (Nat.le_of_eq h.1), m]
theorem back_length (n : Nat) (p : List Int) (i : Nat) : (backUpTo n p i).length = n := by simp [backUpTo]
end Go.Proofs.Ytlmlamkbedfmhaa.P
end
