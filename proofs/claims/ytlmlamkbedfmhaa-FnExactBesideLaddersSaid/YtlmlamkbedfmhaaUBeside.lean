/- Two ladders beside each other: the program's and the reference's; the law's pure statement. -/
import Derived.Test.YtlmlamkbedfmhaaULadder
import Derived.Test.YtlmlamkbedfmhaaF3
set_option linter.unusedVariables false
set_option linter.unusedSimpArgs false
namespace Go.Proofs.Ytlmlamkbedfmhaa.P
open Go.RowKit Go.Proofs.YtlmlamkbedfmhaaW.PrintWords Go.Proofs.YtlmlamkbedfmhaaW.PrintLast Go.Proofs.YtlmlamkbedfmhaaW.PrintMore

def beside (n : Int) (l : List Int) (m : Int) (q : List Int) : Int × List Int × Bool :=
  if ladderOk n l = true ∧ ladderOk m q = true then ladderIf (n + m) (l ++ q.map fun r => n + r) else (0, [], false)
theorem Clone_eq (l : List Int) (h : l.length < 17592186044416) : slices_Clone_int_int.f l = some l := by
  unfold slices_Clone_int_int.f; rw [if_pos h]
theorem specBeside_loop (n : Int) (l : List Int) (m : Int) (q : List Int) (hn : ladderOk n l = true) (hq : ladderOk m q = true) (s : Int) : ∀ d i : Nat, i + d = q.length →
    Ev (fun k => spec_BesideLadders.l0 k q (q.length : Int) (i : Int) n l s (l ++ (q.take i).map fun r => n + r)) (ladderIf s (l ++ q.map fun r => n + r)) := by
  have h1 := ladderOk_len hn
  have h2 := ladderOk_len hq
  have h3 := ladderOk_wires hn
  have h4 := ladderOk_wires hq
  intro d
  induction d with
  | zero =>
    intro i hi
    refine Ev.step (fun k => by rw [spec_BesideLadders.l0]) ?_
    refine Ev.no (by omega) ?_
    rw [List.take_of_length_le (by omega)]
    exact Ev.bind (laIf_ev _ _ (by simp; omega)) (Ev.now _)
  | succ d ih =>
    intro i hi
    have ha : i < q.length := by omega
    have hm := ladderOk_mem hq (List.getElem_mem ha)
    refine Ev.step (fun k => by rw [spec_BesideLadders.l0]) ?_
    refine Ev.yes (by omega) (Ev.yes (by omega) (Ev.yes (by omega) (Ev.yes (by simp; omega) ?_)))
    rw [rd_nat ha, w64i ha (by omega), w64 (by omega) (by omega)]
    have e : (l ++ (q.take i).map fun r => n + r) ++ [n + q[i]] = l ++ (q.take (i + 1)).map fun r => n + r := by
      rw [List.append_assoc, take_map_snoc (fun r => n + r) ha]
    rw [e]
    exact ih (i + 1) (by omega)
theorem specBeside_ev (n : Int) (l : List Int) (m : Int) (q : List Int) (h1 : l.length ≤ 1048576) (h2 : q.length ≤ 1048576) : Ev (fun k => spec_BesideLadders.f k n l m q) (beside n l m q) := by
  unfold spec_BesideLadders.f beside
  refine Ev.bind (laGood_ev n l (by omega)) ?_
  by_cases a : ladderOk n l = true
  · refine Ev.yes a (Ev.bind (laGood_ev m q (by omega)) ?_)
    refine Ev.step (fun k => by rw [spec_BesideLadders.j0]) ?_
    by_cases b : ladderOk m q = true
    · have h3 := ladderOk_wires a
      have h4 := ladderOk_wires b
      rw [if_pos ⟨a, b⟩, w64 (by omega) (by omega)]
      refine Ev.no (by simp [b]) (Ev.known (l1Own_eq l (by omega)) ?_)
      simpa using specBeside_loop n l m q a b (n + m) q.length 0 (by omega)
    · rw [if_neg (fun z => b z.2)]
      exact Ev.yes (by simp [b]) (Ev.now _)
  · rw [if_neg (fun z => a z.1)]
    refine Ev.no a ?_
    exact Ev.step (fun k => by rw [spec_BesideLadders.j0]) (Ev.yes rfl (Ev.now _))
theorem implBeside_loop (n : Int) (l : List Int) (m : Int) (q : List Int) (hn : ladderOk n l = true) (hq : ladderOk m q = true) (s : Int) : ∀ d i : Nat, i + d = q.length →
    Ev (fun k => impl_BesideLadders.l0 k q (q.length : Int) (i : Int) n l s (l ++ (q.take i).map fun r => n + r)) (ladderIf s (l ++ q.map fun r => n + r)) := by
  have h1 := ladderOk_len hn
  have h2 := ladderOk_len hq
  have h3 := ladderOk_wires hn
  have h4 := ladderOk_wires hq
  intro d
  induction d with
  | zero =>
    intro i hi
    refine Ev.step (fun k => by rw [impl_BesideLadders.l0]) ?_
    refine Ev.no (by omega) ?_
    rw [List.take_of_length_le (by omega)]
    exact Ev.known (checked_eq _ _) (Ev.now _)
  | succ d ih =>
    intro i hi
    have ha : i < q.length := by omega
    have hm := ladderOk_mem hq (List.getElem_mem ha)
    refine Ev.step (fun k => by rw [impl_BesideLadders.l0]) ?_
    refine Ev.yes (by omega) (Ev.yes (by omega) (Ev.yes (by omega) (Ev.yes (by simp; omega) ?_)))
    rw [rd_nat ha, w64i ha (by omega), w64 (by omega) (by omega)]
    have e : (l ++ (q.take i).map fun r => n + r) ++ [n + q[i]] = l ++ (q.take (i + 1)).map fun r => n + r := by
      rw [List.append_assoc, take_map_snoc (fun r => n + r) ha]
    rw [e]
    exact ih (i + 1) (by omega)
theorem implBeside_ev (n : Int) (l : List Int) (m : Int) (q : List Int) (h1 : l.length ≤ 1048576) (h2 : q.length ≤ 1048576) : Ev (fun k => impl_BesideLadders.f k n l m q) (beside n l m q) := by
  unfold impl_BesideLadders.f beside
  refine Ev.known (isLadder_eq n l) ?_
  by_cases a : ladderOk n l = true
  · refine Ev.yes a (Ev.known (isLadder_eq m q) ?_)
    refine Ev.step (fun k => by rw [impl_BesideLadders.j0]) ?_
    by_cases b : ladderOk m q = true
    · have h3 := ladderOk_wires a
      have h4 := ladderOk_wires b
      rw [if_pos ⟨a, b⟩, w64 (by omega) (by omega)]
      refine Ev.no (by simp [b]) (Ev.known (Clone_eq l (by omega)) ?_)
      simpa using implBeside_loop n l m q a b (n + m) q.length 0 (by omega)
    · rw [if_neg (fun z => b z.2)]
      exact Ev.yes (by simp [b]) (Ev.now _)
  · rw [if_neg (fun z => a z.1)]
    refine Ev.no a ?_
    exact Ev.step (fun k => by rw [impl_BesideLadders.j0]) (Ev.yes rfl (Ev.now _))
theorem toLadder_ev (n : Int) (l : List Int) (h : l.length ≤ 1048576) : Ev (fun k => laws_toLadder.f k n l) (n, l) := by
  unfold laws_toLadder.f
  exact Ev.bind (toIntS_ev l (by omega)) (Ev.now _)
theorem eqLadder_ev (n : Int) (l : List Int) (h : l.length ≤ 1048576) : Ev (fun k => laws_eqLadder.f k n l n l) true := by
  unfold laws_eqLadder.f
  refine Ev.yes rfl (Ev.bind (eqIntS_ev l l (by omega)) ?_)
  exact Ev.yes (by simp) (Ev.now _)
theorem markLadder_ev (n : Int) (l : List Int) (a : Int) (h0 : 0 ≤ a) (h1 : a + l.length ≤ 9223372036854775807) : Ev (fun k => laws_markLadder.f k n l a) (a + l.length, ramp a l.length) := by
  unfold laws_markLadder.f
  exact Ev.bind (markIntS_ev l a h0 h1) (Ev.now _)
theorem heldLadder_ev (n : Int) (m : Nat) (a : Int) (h0 : 0 ≤ a) (h1 : a + m ≤ 9223372036854775807) : Ev (fun k => laws_heldLadder.f k n (ramp a m) a) (a + m) := by
  unfold laws_heldLadder.f
  refine Ev.bind (heldIntS_ev a m h0 h1) ?_
  exact Ev.no (by omega) (Ev.now _)
theorem beside_len (n : Int) (l : List Int) (m : Int) (q : List Int) : (beside n l m q).2.1.length ≤ 60 := by
  unfold beside ladderIf
  split
  · split
    · rename_i h; exact ladderOk_len h
    · simp
  · simp
theorem szLadder_eq (n : Int) (l : List Int) (a : Int) (h0 : 0 ≤ a) (h1 : a ≤ 1048576) (hl : l.length ≤ 9223372036854775807) : laws_szLadder.f n l a = some (if a - l.length < 0 then -1 else a - l.length) := by
  unfold laws_szLadder.f laws_szIntS.f
  rw [w64 (by omega) (by omega)]
  by_cases h : a - (l.length : Int) < 0
  · simp [h]
  · simp [h]
theorem besideLaw_j2 (b : Bool) (n : Int) (m : Nat) (x : Int) (hb : b = false) (hx : x = 1 + m) (hm : m ≤ 60) : Ev (fun k => laws_FnExactBesideLadders.j2 k x b n (ramp 1 m)) true := by
  refine Ev.step (fun k => by rw [laws_FnExactBesideLadders.j2]) ?_
  refine Ev.no (by simp [hb]) (Ev.bind (heldLadder_ev n m 1 (by omega) (by omega)) ?_)
  exact Ev.no (by omega) (Ev.yes (by omega) (Ev.now _))
theorem besideLaw_j1 (n : Int) (l : List Int) (m : Int) (q : List Int) (h1 : l.length ≤ 1048576) (h2 : q.length ≤ 1048576) (b : Bool) (hb : b = false) :
    Ev (fun k => laws_FnExactBesideLadders.j1 k (beside n l m q).2.2 b n l m q (beside n l m q).1 (beside n l m q).2.1 (beside n l m q).1 (beside n l m q).2.1) true := by
  have hl := beside_len n l m q
  refine Ev.step (fun k => by rw [laws_FnExactBesideLadders.j1]) ?_
  refine Ev.no (by simp [hb]) (Ev.bind (markLadder_ev _ _ 1 (by omega) (by omega)) ?_)
  refine Ev.bind (heldLadder_ev _ _ 1 (by omega) (by omega)) ?_
  refine Ev.no (by omega) (Ev.yes rfl ?_)
  refine Ev.bind (toLadder_ev n l h1) (Ev.bind (toLadder_ev m q h2) ?_)
  refine Ev.bind (implBeside_ev n l m q h1 h2) (Ev.bind (eqLadder_ev _ _ (by omega)) ?_)
  exact Ev.yes rfl (besideLaw_j2 _ _ _ _ (by simp) rfl hl)
theorem besideLaw_j0 (n : Int) (l : List Int) (m : Int) (q : List Int) (h1 : l.length ≤ 1048576) (h2 : q.length ≤ 1048576) (b : Bool) (hb : b = false) :
    Ev (fun k => laws_FnExactBesideLadders.j0 k (beside n l m q).2.2 (beside n l m q).2.2 b n l m q (beside n l m q).1 (beside n l m q).2.1 n l m q (beside n l m q).1 (beside n l m q).2.1) true := by
  have hl := beside_len n l m q
  refine Ev.step (fun k => by rw [laws_FnExactBesideLadders.j0]) ?_
  refine Ev.no (by simp [hb]) (Ev.bind (toLadder_ev n l h1) (Ev.bind (eqLadder_ev _ _ h1) (Ev.yes rfl ?_)))
  refine Ev.bind (toLadder_ev m q h2) (Ev.bind (eqLadder_ev _ _ h2) (Ev.yes rfl ?_))
  refine Ev.bind (markLadder_ev _ _ 1 (by omega) (by omega)) ?_
  refine Ev.bind (markLadder_ev _ _ _ (by show (0 : Int) ≤ 1 + _; omega) (by show (1 : Int) + _ + _ ≤ _; omega)) ?_
  refine Ev.no (by show ¬ ((1 : Int) + _ + _ < 0); omega) (Ev.bind (eqLadder_ev _ _ (by omega)) (Ev.yes rfl ?_))
  exact besideLaw_j1 n l m q h1 h2 _ (by simp)
theorem besideLaw (n : Int) (l : List Int) (m : Int) (q : List Int) (h1 : l.length ≤ 9223372036854775807) (h2 : q.length ≤ 9223372036854775807) : ∃ k, laws_FnExactBesideLadders.f k n l m q = some true := by
  refine Ev.rounds (g := fun k => laws_FnExactBesideLadders.f k n l m q) ?_
  unfold laws_FnExactBesideLadders.f
  refine Ev.known (szLadder_eq n l 1048576 (by omega) (by omega) h1) ?_
  by_cases a : (1048576 : Int) - l.length < 0
  · rw [if_pos a]; exact Ev.yes (by omega) (Ev.now _)
  · rw [if_neg a]
    refine Ev.no a (Ev.known (szLadder_eq m q _ (by omega) (by omega) h2) ?_)
    by_cases b : (1048576 : Int) - l.length - q.length < 0
    · rw [if_pos b]; exact Ev.yes (by omega) (Ev.now _)
    · rw [if_neg b]
      have h3 : l.length ≤ 1048576 := by omega
      have h4 : q.length ≤ 1048576 := by omega
      have hl := beside_len n l m q
      refine Ev.no b (Ev.bind (toLadder_ev n l h3) (Ev.bind (toLadder_ev m q h4) ?_))
      refine Ev.bind (specBeside_ev n l m q h3 h4) (Ev.bind (toLadder_ev n l h3) (Ev.bind (toLadder_ev m q h4) ?_))
      refine Ev.bind (implBeside_ev n l m q h3 h4) (Ev.bind (eqLadder_ev _ _ (by omega)) (Ev.yes rfl ?_))
      exact besideLaw_j0 n l m q h3 h4 _ (by simp)
end Go.Proofs.Ytlmlamkbedfmhaa.P
