-- Printed by wip/gen.py (a program of this session's, over the kit's print program). Lean checks it.
import Derived.Test.YtlmlamkbedfmhaaFKinds
import Derived.Test.YtlmlamkbedfmhaaHWords
import Derived.Test.YtlmlamkbedfmhaaF98
namespace Go.Proofs.Ytlmlamkbedfmhaa.P
open Go.RowKit Go.Proofs.YtlmlamkbedfmhaaW.PrintWords Go.Proofs.YtlmlamkbedfmhaaW.PrintLast Go.Proofs.YtlmlamkbedfmhaaW.PrintMore
attribute [local go_sem] max2_int min2_int max_two min_two max_three min_three max_four min_four   -- for this text's walks alone
set_option linter.unusedVariables false
set_option linter.unusedSimpArgs false

/-! ### impl_isLadder: function 93 -/
-- impl.isLadder: two to eight wires, at most sixty rungs, all of them in range. The closure and slices.ContainsFunc are walked here.
def ladderOk (n : Int) (l : List Int) : Bool := decide (2 ≤ n ∧ n ≤ 8) && (decide (l.length ≤ 60) && l.all (fun r => decide (0 ≤ r ∧ r ≤ n - 2)))
def impl_isLadder.f (a0_0 : Int) (l0_1 : List Int) : Option Bool := some (ladderOk a0_0 l0_1)
/-- What the closure says of a rung: it is out of range. -/
def impl_isLadder.bad (n x : Int) : Bool := !(decide (0 ≤ x ∧ x ≤ n - 2))
theorem impl_isLadder.betw (x lo hi : Int) : impl_between.f x lo hi = some (decide (lo ≤ x ∧ x ≤ hi)) := by
  unfold impl_between.f
  by_cases h : x ≥ lo
  · rw [if_pos h]; congr 1; by_cases h2 : x ≤ hi <;> simp [h2] <;> omega
  · rw [if_neg h]; congr 1; simp; omega
set_option maxRecDepth 100000 in
theorem impl_isLadder.closure (x n : Int) (g : Nat) (w : World) (hc : w.cell? ⟨g, 0, none⟩ = some (.int .i64 n)) (h2 : 2 ≤ n) (h8 : n ≤ 8) :
    Calls Try.prog 163 #[.int .i64 x, .pointer (some ⟨g, 0, none⟩)] w fun e w' => e = .returned (.bool (impl_isLadder.bad n x)) ∧ Drawn0 w w' := by
  have hw : wrap64 (n - 2) = n - 2 := by unfold wrap64; omega
  have B := fun W => impl_between.calls x 0 (n - 2) _ W (impl_isLadder.betw x 0 (n - 2))
  have HB := Aside0.mk B
  have HW := Aside0.mk hw
  clear B hw
  unfold impl_isLadder.bad
  generalize (decide (0 ≤ x ∧ x ≤ n - 2)) = b at *
  go_enter Try.func163, Try.ntmps163
  go_wp2_with (go_at_call 98; refine (HB.out _).mono ?_; rintro e w' ⟨rfl, ⟨m, rfl⟩⟩)
  go_ret
  exact ⟨rfl, ⟨⟨_, rfl⟩⟩⟩
def impl_isLadder.Idx (n : Int) (l : List Int) (w : World) (e : Ending) (w' : World) : Prop := ∃ i : Int, e = .returned (.int .i64 i) ∧ decide (0 ≤ i) = l.any (impl_isLadder.bad n) ∧ Drawn0 w w'
theorem impl_isLadder.any_no {n : Int} {l : List Int} (h : ∀ j : Nat, j < l.length → impl_isLadder.bad n (rd l j) = false) : l.any (impl_isLadder.bad n) = false := by
  rw [List.any_eq_false]
  intro x hx
  obtain ⟨j, hj, rfl⟩ := List.getElem_of_mem hx
  have := h j hj
  unfold rd at this
  simp [hj] at this
  simp [this]
theorem impl_isLadder.any_yes {n : Int} {l : List Int} {j : Nat} (hj : j < l.length) (h : impl_isLadder.bad n (rd l j) = true) : l.any (impl_isLadder.bad n) = true := by
  rw [List.any_eq_true]
  refine ⟨l[j], List.getElem_mem hj, ?_⟩
  unfold rd at h
  simpa [hj] using h
set_option maxHeartbeats 1000000 in
set_option maxRecDepth 100000 in
theorem impl_isLadder.index (A : Option Addr) (c : Nat) (l : List Int) (n : Int) (g : Nat) (w : World) (hr : Kd.C (Kd.int .i64) w A l.length l) (hl : l.length ≤ 60) (hc : w.cell? ⟨g, 0, none⟩ = some (.int .i64 n)) (h2 : 2 ≤ n) (h8 : n ≤ 8) :
    Calls Try.prog 182 #[.slice A l.length c, .func (.func 163) #[] #[.pointer (some ⟨g, 0, none⟩)]] w (impl_isLadder.Idx n l w) := by
  have HR := Aside0.mk hr
  clear hr
  have HC := fun x (m : Nat) => impl_isLadder.closure x n g (w.drewN m) (by simpa using hc) h2 h8
  have HX := Aside0.mk HC
  clear HC h2 h8
  go_enter Try.func182, Try.ntmps182
  go_wp2
  go_loopw [8] (fun v w' => ∃ k : Nat, k ≤ l.length ∧ v = .int .i64 k ∧ Aside0 (∀ j : Nat, j < k → impl_isLadder.bad n (rd l j) = false) ∧ Drawn0 w w') (fun v _ => l.length - (intOf v).toNat)
  case atStart => exact ⟨0, Nat.zero_le _, rfl, ⟨fun j hj => by omega⟩, Drawn0.refl _⟩
  case round =>
    obtain ⟨k, hk, rfl, HK, ⟨m, rfl⟩⟩ := hrel
    by_cases hlt : k < l.length
    · obtain ⟨ad, ea, hx⟩ := Kd.at_int HR.out (k : Int) (by omega) (by omega)
      cases ea
      rw [Int.toNat_natCast] at hx
      generalize hv : rd l (k : Int) = v at hx
      have HV := Aside0.mk hv
      clear hv
      cases hb : impl_isLadder.bad n v
      all_goals
        have HB := Aside0.mk hb
        clear hb
        have C1 := fun m' => HX.out v m'
        rw [HB.out] at C1
        have C2 := Aside0.mk C1
        clear C1
        go_wp2_with (go_at_call 163; refine (C2.out _).mono ?_; rintro e w' ⟨rfl, ⟨m', rfl⟩⟩)
      · go_roundw
        case rel =>
          refine ⟨k + 1, by omega, by go_num, ⟨fun j hj => ?_⟩, by repeat (first | exact Drawn0.refl _ | apply Drawn0.step)⟩
          rcases Nat.lt_succ_iff_lt_or_eq.1 hj with h | rfl
          · exact HK.out j h
          · rw [HV.out]; exact HB.out
        case measure => simp [intOf]; omega
      · go_ret
        exact ⟨k, rfl, by rw [impl_isLadder.any_yes hlt (by rw [HV.out]; exact HB.out)]; simp, by repeat (first | exact Drawn0.refl _ | apply Drawn0.step)⟩
    · obtain rfl : k = l.length := by omega
      go_wp2
      go_ret
      exact ⟨-1, rfl, by rw [impl_isLadder.any_no HK.out]; rfl, by repeat (first | exact Drawn0.refl _ | apply Drawn0.step)⟩
set_option maxHeartbeats 1000000 in
set_option maxRecDepth 100000 in
theorem impl_isLadder.contains (A : Option Addr) (c : Nat) (l : List Int) (n : Int) (g : Nat) (w : World) (hr : Kd.C (Kd.int .i64) w A l.length l) (hl : l.length ≤ 60) (hc : w.cell? ⟨g, 0, none⟩ = some (.int .i64 n)) (h2 : 2 ≤ n) (h8 : n ≤ 8) :
    Calls Try.prog 162 #[.slice A l.length c, .func (.func 163) #[] #[.pointer (some ⟨g, 0, none⟩)]] w fun e w' => e = .returned (.bool (l.any (impl_isLadder.bad n))) ∧ Drawn0 w w' := by
  have HI := Aside0.mk (impl_isLadder.index A c l n g w hr hl hc h2 h8)
  clear hr hl hc h2 h8
  go_enter Try.func162, Try.ntmps162
  go_wp2_with (go_at_call 182; refine HI.out.mono ?_; rintro e w' ⟨i, rfl, hi, ⟨m, rfl⟩⟩; have HD := Aside0.mk hi; clear hi)
  go_ret
  exact ⟨by rw [← HD.out]; rfl, ⟨⟨m, rfl⟩⟩⟩
set_option maxHeartbeats 1000000 in
set_option maxRecDepth 100000 in
theorem impl_isLadder.calls (a0_0 : Int) (A0_1 : Option Addr) (c0_1 : Nat) (l0_1 : List Int) (r : Bool) (w : World) (hr0_1 : Kd.C (Kd.int .i64) w A0_1 l0_1.length l0_1) (hc0_1 : l0_1.length ≤ c0_1) (h : impl_isLadder.f a0_0 l0_1 = some r) :
    Calls Try.prog 93 #[.agg #[.int .i64 a0_0, .slice A0_1 l0_1.length c0_1]] w fun e w' => e = .returned (.bool r) ∧ Below w.heap.size w w' := by
  obtain rfl := Option.some.inj h
  clear h hc0_1
  have B := fun W => impl_between.calls a0_0 2 8 _ W (impl_isLadder.betw a0_0 2 8)
  by_cases c1 : 2 ≤ a0_0 ∧ a0_0 ≤ 8
  · rw [decide_eq_true c1] at B
    have HB := Aside0.mk B
    clear B
    by_cases c2 : l0_1.length ≤ 60
    · have hres : ladderOk a0_0 l0_1 = !l0_1.any (impl_isLadder.bad a0_0) := by
        unfold ladderOk
        rw [decide_eq_true c1, decide_eq_true c2, Bool.true_and, Bool.true_and, List.not_any_eq_all_not]
        congr 1
        funext x
        simp [impl_isLadder.bad]
      have HS := Aside0.mk hres
      have HCn := Aside0.mk (fun W hr hc => impl_isLadder.contains A0_1 c0_1 l0_1 a0_0 w.heap.size W hr c2 hc c1.1 c1.2)
      have HR := Aside0.mk hr0_1
      have c2b : decide (l0_1.length ≤ 60) = true := decide_eq_true c2
      have c2c : decide ((l0_1.length : Int) ≤ 60) = true := decide_eq_true (by omega)
      clear hres hr0_1 c1 c2
      go_enter Try.func93, Try.ntmps93
      go_wp2_with (first | (go_at_call 98; refine (HB.out _).mono ?_; rintro e w' ⟨rfl, ⟨m, rfl⟩⟩) | (go_at_call 162; refine (HCn.out _ ?hr ?hc).mono ?_; (case hr => exact Kd.C_below HR.out (pw_below_drewN (below_alloc (Below.refl _ _) _) _)); (case hc => simp); rintro e w' ⟨rfl, ⟨m', rfl⟩⟩))
      go_ret
      exact ⟨by rw [HS.out]; rfl, by repeat (first | apply pw_below_drewN | apply below_alloc | exact Below.refl _ _)⟩
    · have hres : ladderOk a0_0 l0_1 = false := by
        unfold ladderOk
        rw [decide_eq_false c2]; simp
      have HS := Aside0.mk hres
      have c2b : decide (l0_1.length ≤ 60) = false := decide_eq_false c2
      have c2c : decide ((l0_1.length : Int) ≤ 60) = false := decide_eq_false (by omega)
      clear hres hr0_1 c1 c2
      go_enter Try.func93, Try.ntmps93
      go_wp2_with (first | (go_at_call 98; refine (HB.out _).mono ?_; rintro e w' ⟨rfl, ⟨m, rfl⟩⟩))
      go_ret
      exact ⟨by rw [HS.out]; rfl, by repeat (first | apply pw_below_drewN | apply below_alloc | exact Below.refl _ _)⟩
  · rw [decide_eq_false c1] at B
    have HB := Aside0.mk B
    clear B
    have hres : ladderOk a0_0 l0_1 = false := by
      unfold ladderOk
      rw [decide_eq_false c1]; simp
    have HS := Aside0.mk hres
    clear hres hr0_1 c1
    go_enter Try.func93, Try.ntmps93
    go_wp2_with (first | (go_at_call 98; refine (HB.out _).mono ?_; rintro e w' ⟨rfl, ⟨m, rfl⟩⟩))
    go_ret
    exact ⟨by rw [HS.out]; rfl, by repeat (first | apply pw_below_drewN | apply below_alloc | exact Below.refl _ _)⟩

end Go.Proofs.Ytlmlamkbedfmhaa.P
