-- Put together by wip/merge.py (a program of this session's) out of this claim's texts; Lean checks it.
import Derived.Test.YtlmlamkbedfmhaaG22
import Derived.Test.YtlmlamkbedfmhaaG23
import Derived.Test.YtlmlamkbedfmhaaG26
import Derived.Test.YtlmlamkbedfmhaaG25
import Derived.Test.YtlmlamkbedfmhaaG21
section
namespace Go.Proofs.Ytlmlamkbedfmhaa.P
open Go.RowKit Go.Proofs.YtlmlamkbedfmhaaW.PrintWords Go.Proofs.YtlmlamkbedfmhaaW.PrintLast Go.Proofs.YtlmlamkbedfmhaaW.PrintMore
attribute [local go_sem] max2_int min2_int max_two min_two max_three min_three max_four min_four   -- for this text's walks alone
set_option linter.unusedVariables false
set_option linter.unusedSimpArgs false

/-! ### impl_result: function 170 -/
def impl_result.l0 : Nat → Int → List Int → List Int → Int → Int → Option (List Int)
  | 0, _, _, _, _, _ => none
  | k + 1, x0, x1, x5, x9, x10 => if x10 < x9 then ((impl_way.f k x0 x1 x10).bind fun t368 => (if 0 ≤ (wrap64 ((t368.length : Int) - 1)) then (if (wrap64 ((t368.length : Int) - 1)) < (t368.length : Int) then (if x5.length < 17592186044416 then (impl_result.l0 k x0 x1 (x5 ++ [rd t368 (wrap64 ((t368.length : Int) - 1))]) x9 (wrap64 (x10 + 1))) else (none)) else (none)) else (none))) else (some x5)
def impl_result.f (k : Nat) (a0 : Int) (l1 : List Int) : Option (List Int) := impl_result.l0 k a0 l1 (([] : List Int)) a0 0
set_option maxHeartbeats 8000000 in
set_option maxRecDepth 100000 in
theorem impl_result.calls (k : Nat) (a0 : Int) (A1 : Option Addr) (c1 : Nat) (l1 : List Int) (r : List Int) (w : World) (hr1 : Kd.C (Kd.int .i64) w A1 l1.length l1) (hc1 : l1.length ≤ c1) (h : impl_result.f k a0 l1 = some r) :
    Calls Try.prog 170 #[.int .i64 a0, .slice A1 l1.length c1] w fun e w' => ∃ v0_ : Value, e = .returned (v0_) ∧ Kd.R (Kd.int .i64) 3 w' w.heap.size (fun _ => True) v0_ r ∧ Below w.heap.size w w' := by
  have hu26 := Try.underlying26
  have HR1 := Aside0.mk hr1
  have HC1 := Aside0.mk hc1
  clear hr1 hc1
  have HB := Aside0.mk (Below.refl w.heap.size w)
  have H : (impl_result.l0 k a0 l1 (([] : List Int)) a0 0) = some r := h
  clear h
  obtain ⟨y365, hy365⟩ : ∃ y_ : List Int, y_ = (([] : List Int)) := ⟨_, rfl⟩
  replace H : (impl_result.l0 k a0 l1 y365 a0 0) = some r := by first | (rw [hy365]; with_reducible exact H) | (have H2_ := (Option.bind_some _ _).symm.trans H; rw [hy365]; with_reducible exact H2_) | (have H2_ := (Option.bind_some _ _).symm.trans H; with_reducible exact H2_) | with_reducible exact H | (rw [hy365]; exact H) | exact H
  have Ny365 := Aside0.mk hy365
  clear hy365
  have H' := Aside0.mk H
  clear H
  go_enter Try.func170, Try.ntmps170
  go_wp2_with (first | ((with_reducible refine gate_dst (N := 8) rfl ?_); refine Kd.R_lit (Kd.int .i64) _ 3 ?hg (N := 8) ?hd (xs := ([] : List Int)) (inner := []) (ok := fun _ => True) (okp := fun _ => True) ?hr ?hp (fun _ hk => hk) trivial (Below.refl _ _) (Nat.le_refl _) (by simp) ?_; (case hd => rfl); (case hg => rfl); (case hr => first | (go_simp; done) | (go_simp; rfl)); (case hp => exact (Reps.none _ _)); intro v366 w3 ho4 hb hg_ hnew_; clear hg_ hnew_; (first | rw [← Ny365.out] at ho4 | (simp only [Int.reduceToNat] at ho4; rw [← Ny365.out] at ho4)); have HO367 := Aside0.mk (Kd.R_lower ho4 (below_size (qD HB))); replace HB := uD HB hb; clear hb ho4))
  go_loopg [5, 10] k (fun kq v5 v10 w' => ∃ (x5_1 : List Int) (x10_1 : Int), v10 = .int .i64 x10_1 ∧ Aside0 (impl_result.l0 kq a0 l1 x5_1 a0 x10_1 = some r) ∧ Aside0 (kq ≤ k) ∧ Aside0 (Kd.R (Kd.int .i64) 3 w' w.heap.size (fun _ => True) v5 x5_1) ∧ Aside0 (Below w.heap.size w w'))
  case atStart => exact ⟨(y365), (0), (by first | rfl | (simp; done) | (simp [*]; done) | (simp [bne]; done)), H', ⟨Nat.le_refl _⟩, ⟨qR HO367⟩, ⟨qD HB⟩⟩
  case round =>
    clear H'
    try clear c1
    try clear p2
    obtain ⟨x5_1, x10_1, rfl, HA, HK1, HO_5, HB⟩ := hrel
    cases gk with
    | zero => exact absurd HA.out (by simp [impl_result.l0])
    | succ k1 =>
      have H := HA.out
      clear HA
      simp only [impl_result.l0] at H
      by_cases c5 : x10_1 < a0
      · rw [if_pos c5] at H
        have c5b0 : decide (x10_1 < a0) = true := decide_eq_true c5
        clear c5
        replace H := Option.bind_eq_some_iff.mp H
        obtain ⟨t368, A60, H⟩ := H
        replace H : (if 0 ≤ (wrap64 ((t368.length : Int) - 1)) then (if (wrap64 ((t368.length : Int) - 1)) < (t368.length : Int) then (if x5_1.length < 17592186044416 then (impl_result.l0 k1 a0 l1 (x5_1 ++ [rd t368 (wrap64 ((t368.length : Int) - 1))]) a0 (wrap64 (x10_1 + 1))) else (none)) else (none)) else (none)) = some r := H
        have A6 := Aside0.mk A60
        clear A60
        obtain ⟨ji7, hji7⟩ : ∃ j_ : Int, (wrap64 ((t368.length : Int) - 1)) = j_ := ⟨_, rfl⟩
        replace H : (if 0 ≤ (ji7) then (if (ji7) < (t368.length : Int) then (if x5_1.length < 17592186044416 then (impl_result.l0 k1 a0 l1 (x5_1 ++ [rd t368 (ji7)]) a0 (wrap64 (x10_1 + 1))) else (none)) else (none)) else (none)) = some r := by first | (rw [hji7] at H; exact H) | (simp only [hji7] at H ⊢; exact H)
        (try rw [hji7] at A6)
        have hji7w : (IntKind.i64.wrap ((t368.length : Int) - 1)) = ji7 := (i64_w _).trans hji7
        by_cases c8 : 0 ≤ (ji7)
        · rw [if_pos c8] at H
          have c8b0 : decide (0 ≤ (ji7)) = true := decide_eq_true c8
          clear c8
          by_cases c9 : (ji7) < (t368.length : Int)
          · rw [if_pos c9] at H
            have c9b0 : decide ((ji7) < (t368.length : Int)) = true := decide_eq_true c9
            clear c9
            by_cases c10 : x5_1.length < 17592186044416
            · rw [if_pos c10] at H
              have LMc10 := Aside0.mk c10
              clear c10
              obtain ⟨y372, hy372⟩ : ∃ y_ : List Int, y_ = (x5_1 ++ [rd t368 (ji7)]) := ⟨_, rfl⟩
              replace H : (impl_result.l0 k1 a0 l1 y372 a0 (wrap64 (x10_1 + 1))) = some r := by first | (rw [hy372]; with_reducible exact H) | (have H2_ := (Option.bind_some _ _).symm.trans H; rw [hy372]; with_reducible exact H2_) | (have H2_ := (Option.bind_some _ _).symm.trans H; with_reducible exact H2_) | with_reducible exact H | (rw [hy372]; exact H) | exact H
              have Ny372 := Aside0.mk hy372
              clear hy372
              have H' := Aside0.mk H
              clear H
              go_wp2_with (first | ((with_reducible refine gate_callee (f := 117) rfl ?_); refine gs (some 17) Try.func117 #[.agg #[.int .i64 a0, .slice A1 l1.length c1], .int .i64 x10_1] ?_; (with_reducible refine (impl_way.calls k1 a0 _ _ l1 x10_1 t368 _ ?side1 ?side2 A6.out).mono ?_); (case side1 => exact qC (Kd.C_below HR1.out HB.out)); (case side2 => exact HC1.out); rintro e w11 ⟨v369, rfl, ho0, hb⟩; refine ⟨_, rfl, ?_⟩; have HO370 := Aside0.mk (Kd.R_lower (Kd.R_new' ho0 (Kd.R_lt (qR HO_5))) (below_size (qD HB))); replace HO_5 := eR HO_5 ho0 hb; replace HB := uD HB hb; (try clear hb); (try clear hb2); (try clear hk); (try clear hi); (try clear ho0); obtain ⟨Ao12, co12, eo12⟩ := Kd.R_slice HO370.out; subst eo12; have p371 : 0 ≤ ((ji7) : Int) := of_decide_eq_true (by first | (with_reducible assumption) | assumption); have q371 : (ji7) < (t368.length : Int) := of_decide_eq_true (by first | (with_reducible assumption) | assumption); obtain ⟨ad371, e371, hx371_0⟩ := Kd.at_int (Kd.R_reads' HO370.out).2.2 (ji7) p371 q371; cases e371; replace p371 := eq_true p371; replace q371 := eq_true q371) | ((with_reducible refine gate_builtin (b := .append) (xs := #[.tmp 18, .tmp 25]) rfl ?_); at_builtin; refine Kd.R_append (Kd.int .i64) (w0 := w) w.heap.size rfl (.tmp 18) (.tmp 25) 22 3 (.int .i64 0) 8 rfl Try.underlying22 info3 rfl (by decide) (by omega) u5 x5_1 (rd t368 (ji7)) [.int .i64 (rd t368 (ji7))] (fun k_ => some k_ ≠ (.slice (some ad371) t368.length co12 : Value).ownBlock) (fun _ => False) rfl rfl ?aP (fun _ hk => hk.elim) ?aF ?aO ?aB ?aS ?aL ?_; (case aP => exact rfl); (case aB => exact (qD HB)); (case aF => exact (fun k_ hk => Kd.fresh' (Kd.R_lt (qR HO370)) k_ hk)); (case aO => exact (mR HO_5 (fun _ hk => hk.2))); (case aS => exact (below_size (qD HB))); (case aL => have := LMc10.out; omega); intro v373 w13 ho hb hg hat; rw [← Ny372.out] at ho; replace HO370 := Aside0.mk (Kd.R_after (ok := (fun _ => True)) (qR HO370) hg hat); replace HB := Aside0.mk (hb); have HO374 := Aside0.mk (ho); clear HO_5; clear ho hb hg hat))
              go_roundg k1
              case measure => have := HK1.out; omega
              case rel => exact ⟨(y372), (wrap64 (x10_1 + 1)), (by first | rfl | (simp; done) | (simp [*]; done) | (simp [bne]; done)), H', ⟨by have := HK1.out; omega⟩, ⟨mR HO374 (fun _ hk => trivial)⟩, ⟨qD HB⟩⟩
            · rw [if_neg c10] at H
              exact absurd H (by simp)
          · rw [if_neg c9] at H
            exact absurd H (by simp)
        · rw [if_neg c8] at H
          exact absurd H (by simp)
      · rw [if_neg c5] at H
        have c5b0 : decide (x10_1 < a0) = false := decide_eq_false c5
        clear c5
        obtain rfl := Option.some.inj H
        go_wp2
        go_ret
        exact ⟨_, by first | rfl | (simp [errW_none, errW_some] <;> rfl) | (simp [*, errW_none, errW_some] <;> rfl), qR HO_5, qD HB⟩

end Go.Proofs.Ytlmlamkbedfmhaa.P
end
section
namespace Go.Proofs.Ytlmlamkbedfmhaa.P
open Go.RowKit Go.Proofs.YtlmlamkbedfmhaaW.PrintWords Go.Proofs.YtlmlamkbedfmhaaW.PrintLast Go.Proofs.YtlmlamkbedfmhaaW.PrintMore
attribute [local go_sem] max2_int min2_int max_two min_two max_three min_three max_four min_four   -- for this text's walks alone
set_option linter.unusedVariables false
set_option linter.unusedSimpArgs false

/-! ### impl_inverted: function 185 -/
mutual
def impl_inverted.l0 : Nat → List Int → List (List Int) → Int → Int → Option ((List (List Int)))
  | 0, _, _, _, _ => none
  | k + 1, x0, x3, x8, x9 => if x9 < x8 then (impl_inverted.l1 k x0 x3 x9 (wrap64 (x9 + 1)) x8 x9) else (some x3)
def impl_inverted.l1 : Nat → List Int → List (List Int) → Int → Int → Int → Int → Option ((List (List Int)))
  | 0, _, _, _, _, _, _ => none
  | k + 1, x0, x3, x4, x5, x8, x9 => if x5 < (x0.length : Int) then (if 0 ≤ x4 then (if x4 < (x0.length : Int) then (if 0 ≤ x5 then (if (rd x0 x4) > (rd x0 x5) then (if x3.length < 5864062014805 then (impl_inverted.l1 k x0 (x3 ++ [(([x4, x5] : List Int))]) x4 (wrap64 (x5 + 1)) x8 x9) else (none)) else (impl_inverted.l1 k x0 x3 x4 (wrap64 (x5 + 1)) x8 x9)) else (none)) else (none)) else (none)) else (impl_inverted.l0 k x0 x3 x8 (wrap64 (x9 + 1)))
end
def impl_inverted.f (k : Nat) (l0 : List Int) : Option ((List (List Int))) := impl_inverted.l0 k l0 (([] : List (List Int))) (l0.length : Int) 0
set_option maxHeartbeats 8000000 in
set_option maxRecDepth 100000 in
theorem impl_inverted.calls (k : Nat) (A0 : Option Addr) (c0 : Nat) (l0 : List Int) (r : List (List Int)) (w : World) (hr0 : Kd.C (Kd.int .i64) w A0 l0.length l0) (hc0 : l0.length ≤ c0) (h : impl_inverted.f k l0 = some r) :
    Calls Try.prog 185 #[.slice A0 l0.length c0] w fun e w' => ∃ v0_ : Value, e = .returned (v0_) ∧ Kd.S (Kd.slice 3 (Kd.int .i64)) 22 w' w.heap.size (fun _ => True) v0_ r ∧ Below w.heap.size w w' := by
  have HR0 := Aside0.mk hr0
  have HC0 := Aside0.mk hc0
  clear hr0 hc0
  have HB := Aside0.mk (Below.refl w.heap.size w)
  have H : (impl_inverted.l0 k l0 (([] : List (List Int))) (l0.length : Int) 0) = some r := h
  clear h
  obtain ⟨y375, hy375⟩ : ∃ y_ : List (List Int), y_ = (([] : List (List Int))) := ⟨_, rfl⟩
  replace H : (impl_inverted.l0 k l0 y375 (l0.length : Int) 0) = some r := by first | (rw [hy375]; with_reducible exact H) | (have H2_ := (Option.bind_some _ _).symm.trans H; rw [hy375]; with_reducible exact H2_) | (have H2_ := (Option.bind_some _ _).symm.trans H; with_reducible exact H2_) | with_reducible exact H | (rw [hy375]; exact H) | exact H
  have Ny375 := Aside0.mk hy375
  clear hy375
  have H' := Aside0.mk H
  clear H
  go_enter Try.func185, Try.ntmps185
  go_wp2_with (first | ((with_reducible refine gate_dst (N := 6) rfl ?_); refine Kd.S_lit (Kd.slice 3 (Kd.int .i64)) _ 22 ?hg (N := 6) ?hd (xs := ([] : List (List Int))) (inner := []) (ok := fun _ => True) (okp := fun _ => True) ?hr ?hp (fun _ hk => hk) trivial (Below.refl _ _) (Nat.le_refl _) (by simp) ?_; (case hd => rfl); (case hg => rfl); (case hr => first | (go_simp; done) | (go_simp; rfl)); (case hp => exact (Reps.none _ _)); intro v376 w2 ho3 hb hg_ hnew_; clear hg_ hnew_; (first | rw [← Ny375.out] at ho3 | (simp only [Int.reduceToNat] at ho3; rw [← Ny375.out] at ho3)); have HO377 := Aside0.mk (Kd.S_lower ho3 (below_size (qD HB))); replace HB := uD HB hb; clear hb ho3))
  repeat (go_quiet (first | ((with_reducible refine gate_dst (N := 6) rfl ?_); refine Kd.S_lit (Kd.slice 3 (Kd.int .i64)) _ 22 ?hg (N := 6) ?hd (xs := ([] : List (List Int))) (inner := []) (ok := fun _ => True) (okp := fun _ => True) ?hr ?hp (fun _ hk => hk) trivial (Below.refl _ _) (Nat.le_refl _) (by simp) ?_; (case hd => rfl); (case hg => rfl); (case hr => first | (go_simp; done) | (go_simp; rfl)); (case hp => exact (Reps.none _ _)); intro v376 w2 ho3 hb hg_ hnew_; clear hg_ hnew_; (first | rw [← Ny375.out] at ho3 | (simp only [Int.reduceToNat] at ho3; rw [← Ny375.out] at ho3)); have HO377 := Aside0.mk (Kd.S_lower ho3 (below_size (qD HB))); replace HB := uD HB hb; clear hb ho3)); try go_wp2_with (first | ((with_reducible refine gate_dst (N := 6) rfl ?_); refine Kd.S_lit (Kd.slice 3 (Kd.int .i64)) _ 22 ?hg (N := 6) ?hd (xs := ([] : List (List Int))) (inner := []) (ok := fun _ => True) (okp := fun _ => True) ?hr ?hp (fun _ hk => hk) trivial (Below.refl _ _) (Nat.le_refl _) (by simp) ?_; (case hd => rfl); (case hg => rfl); (case hr => first | (go_simp; done) | (go_simp; rfl)); (case hp => exact (Reps.none _ _)); intro v376 w2 ho3 hb hg_ hnew_; clear hg_ hnew_; (first | rw [← Ny375.out] at ho3 | (simp only [Int.reduceToNat] at ho3; rw [← Ny375.out] at ho3)); have HO377 := Aside0.mk (Kd.S_lower ho3 (below_size (qD HB))); replace HB := uD HB hb; clear hb ho3)))
  go_loopg [3, 9] k (fun kq v3 v9 w' => ∃ (x3_1 : List (List Int)) (x9_1 : Int), v9 = .int .i64 x9_1 ∧ Aside0 (impl_inverted.l0 kq l0 x3_1 (l0.length : Int) x9_1 = some r) ∧ Aside0 (kq ≤ k) ∧ Aside0 (Kd.S (Kd.slice 3 (Kd.int .i64)) 22 w' w.heap.size (fun _ => True) v3 x3_1) ∧ Aside0 (Below w.heap.size w w'))
  case atStart => exact ⟨(y375), (0), (by first | rfl | (simp; done) | (simp [*]; done) | (simp [bne]; done)), H', ⟨Nat.le_refl _⟩, ⟨qS HO377⟩, ⟨qD HB⟩⟩
  case round =>
    clear H'
    try clear c1
    try clear p2
    obtain ⟨x3_1, x9_1, rfl, HA, HK1, HO_3, HB⟩ := hrel
    cases gk with
    | zero => exact absurd HA.out (by simp [impl_inverted.l0])
    | succ k1 =>
      have H := HA.out
      clear HA
      simp only [impl_inverted.l0] at H
      by_cases c4 : x9_1 < (l0.length : Int)
      · rw [if_pos c4] at H
        have c4b0 : decide (x9_1 < (l0.length : Int)) = true := decide_eq_true c4
        clear c4
        have H' := Aside0.mk H
        clear H
        go_wp2
        repeat (go_quiet (fail); try go_wp2)
        go_loopg [3, 5] k1 (fun kq v3 v5 w' => ∃ (x3_2 : List (List Int)) (x5_2 : Int), v5 = .int .i64 x5_2 ∧ Aside0 (impl_inverted.l1 kq l0 x3_2 x9_1 x5_2 (l0.length : Int) x9_1 = some r) ∧ Aside0 (kq ≤ k1) ∧ Aside0 (Kd.S (Kd.slice 3 (Kd.int .i64)) 22 w' w.heap.size (fun _ => True) v3 x3_2) ∧ Aside0 (Below w.heap.size w w'))
        case atStart => exact ⟨(x3_1), (wrap64 (x9_1 + 1)), (by first | rfl | (simp; done) | (simp [*]; done) | (simp [bne]; done)), H', ⟨Nat.le_refl _⟩, ⟨qS HO_3⟩, ⟨qD HB⟩⟩
        case round =>
          clear H'
          try clear c1
          try clear p2
          try clear c4
          try clear c4b0
          try clear p2
          obtain ⟨x3_2, x5_2, rfl, HA, HK2, HO_3, HB⟩ := hrel
          cases gk with
          | zero => exact absurd HA.out (by simp [impl_inverted.l1])
          | succ k2 =>
            have H := HA.out
            clear HA
            simp only [impl_inverted.l1] at H
            by_cases c5 : x5_2 < (l0.length : Int)
            · rw [if_pos c5] at H
              have c5b0 : decide (x5_2 < (l0.length : Int)) = true := decide_eq_true c5
              clear c5
              by_cases c6 : 0 ≤ x9_1
              · rw [if_pos c6] at H
                have c6b0 : decide (0 ≤ x9_1) = true := decide_eq_true c6
                clear c6
                by_cases c7 : x9_1 < (l0.length : Int)
                · rw [if_pos c7] at H
                  have c7b0 : decide (x9_1 < (l0.length : Int)) = true := decide_eq_true c7
                  clear c7
                  by_cases c8 : 0 ≤ x5_2
                  · rw [if_pos c8] at H
                    have c8b0 : decide (0 ≤ x5_2) = true := decide_eq_true c8
                    clear c8
                    by_cases c9 : (rd l0 x9_1) > (rd l0 x5_2)
                    · rw [if_pos c9] at H
                      have c9b0 : decide ((rd l0 x5_2) < (rd l0 x9_1)) = true := decide_eq_true c9
                      clear c9
                      obtain ⟨y380, hy380⟩ : ∃ y_ : List Int, y_ = (([x9_1, x5_2] : List Int)) := ⟨_, rfl⟩
                      replace H : (if x3_2.length < 5864062014805 then (impl_inverted.l1 k2 l0 (x3_2 ++ [y380]) x9_1 (wrap64 (x5_2 + 1)) (l0.length : Int) x9_1) else (none)) = some r := by first | (rw [hy380]; with_reducible exact H) | (have H2_ := (Option.bind_some _ _).symm.trans H; rw [hy380]; with_reducible exact H2_) | (have H2_ := (Option.bind_some _ _).symm.trans H; with_reducible exact H2_) | with_reducible exact H | (rw [hy380]; exact H) | exact H
                      have Ny380 := Aside0.mk hy380
                      clear hy380
                      by_cases c10 : x3_2.length < 5864062014805
                      · rw [if_pos c10] at H
                        have LMc10 := Aside0.mk c10
                        clear c10
                        obtain ⟨y383, hy383⟩ : ∃ y_ : List (List Int), y_ = (x3_2 ++ [y380]) := ⟨_, rfl⟩
                        replace H : (impl_inverted.l1 k2 l0 y383 x9_1 (wrap64 (x5_2 + 1)) (l0.length : Int) x9_1) = some r := by first | (rw [hy383]; with_reducible exact H) | (have H2_ := (Option.bind_some _ _).symm.trans H; rw [hy383]; with_reducible exact H2_) | (have H2_ := (Option.bind_some _ _).symm.trans H; with_reducible exact H2_) | with_reducible exact H | (rw [hy383]; exact H) | exact H
                        have Ny383 := Aside0.mk hy383
                        clear hy383
                        have H' := Aside0.mk H
                        clear H
                        have p378 : 0 ≤ (x9_1 : Int) := of_decide_eq_true (by first | (with_reducible assumption) | assumption)
                        have q378 : x9_1 < (l0.length : Int) := of_decide_eq_true (by first | (with_reducible assumption) | assumption)
                        obtain ⟨ad378, e378, hx378_0⟩ := Kd.at_int HR0.out x9_1 p378 q378
                        cases e378
                        replace hx378_0 := (HB.out.cell (World.block_lt_of_cell? w _ hx378_0)).trans hx378_0
                        replace p378 := eq_true p378
                        replace q378 := eq_true q378
                        have p379 : 0 ≤ (x5_2 : Int) := of_decide_eq_true (by first | (with_reducible assumption) | assumption)
                        have q379 : x5_2 < (l0.length : Int) := of_decide_eq_true (by first | (with_reducible assumption) | assumption)
                        obtain ⟨ad379, e379, hx379_0⟩ := Kd.at_int HR0.out x5_2 p379 q379
                        obtain rfl : ad378 = ad379 := (by injection e379)
                        replace hx379_0 := (HB.out.cell (World.block_lt_of_cell? w _ hx379_0)).trans hx379_0
                        replace p379 := eq_true p379
                        replace q379 := eq_true q379
                        go_wp2_with (first | ((with_reducible refine gate_dst (N := 32) rfl ?_); refine Kd.R_lit (Kd.int .i64) _ 3 ?hg (N := 32) ?hd (xs := ([x9_1, x5_2] : List Int)) (inner := [.int .i64 x9_1, .int .i64 x5_2]) (ok := fun _ => True) (okp := fun _ => True) ?hr ?hp (fun _ hk => hk) trivial (Below.refl _ _) (Nat.le_refl _) (by simp) ?_; (case hd => rfl); (case hg => rfl); (case hr => first | (go_simp; done) | (go_simp; rfl)); (case hp => exact (Reps.one (show Kd.M (Kd.int .i64) _ _ _ x9_1 [.int .i64 x9_1] from rfl) (Reps.one (show Kd.M (Kd.int .i64) _ _ _ x5_2 [.int .i64 x5_2] from rfl) (Reps.none _ _)))); intro v381 w11 ho12 hb hg_ hnew_; clear hg_ hnew_; (first | rw [← Ny380.out] at ho12 | (simp only [Int.reduceToNat] at ho12; rw [← Ny380.out] at ho12)); replace HO_3 := Aside0.mk (Kd.S_elder' (qS HO_3) (Kd.R_base ho12) hb); have HO382 := Aside0.mk (Kd.R_lower ho12 (below_size (qD HB))); replace HB := uD HB hb; clear hb ho12; obtain ⟨Ao14, co14, eo14⟩ := Kd.R_slice HO382.out; subst eo14) | ((with_reducible refine gate_builtin (b := .append) (xs := #[.tmp 29, .tmp 33]) rfl ?_); at_builtin; refine Kd.S_append (Kd.slice 3 (Kd.int .i64)) (w0 := w) w.heap.size rfl (.tmp 29) (.tmp 33) 42 22 (.slice none 0 0) 24 rfl Try.underlying42 info22 rfl (by decide) (by omega) u3 x3_2 y380 [.slice Ao14 y380.length co14] (fun _ => True) (fun k_ => some k_ = (.slice Ao14 y380.length co14 : Value).ownBlock) rfl rfl ?aP (fun k_ hk_ => ((Kd.R_mono (ok' := fun k_ => ((fun _ => True)) k_ ∧ some k_ ≠ (u3 : Value).ownBlock) (Kd.R_apart' (HO382.out) (Kd.S_typed HO_3.out) (by decide)) (fun k_ hk => ⟨trivial, hk.2⟩))).1 k_ hk_.symm) ?aF ?aO ?aB ?aS ?aL ?_; (case aP => exact Kd.M_row (Kd.R_mono (Kd.R_tight rfl (Kd.R_mono (ok' := fun k_ => ((fun _ => True)) k_ ∧ some k_ ≠ (u3 : Value).ownBlock) (Kd.R_apart' (HO382.out) (Kd.S_typed HO_3.out) (by decide)) (fun k_ hk => ⟨trivial, hk.2⟩))) (fun _ h_ => h_))); (case aB => exact (qD HB)); (case aF => exact (fun _ _ => trivial)); (case aO => exact (by (with_reducible repeat (first | apply Kd.S_alloc | apply Kd.S_drewN | apply Kd.S_drew)); exact Kd.S_mono HO_3.out (fun k_ hk => ⟨trivial, fun e_ => hk.2 e_⟩))); (case aS => exact (below_size (qD HB))); (case aL => have := LMc10.out; omega); intro v384 w13 ho hb hg hat; rw [← Ny383.out] at ho; replace HB := Aside0.mk (hb); have HO385 := Aside0.mk (ho); clear HO_3 HO382; clear ho hb hg hat))
                        repeat (go_quiet (first | ((with_reducible refine gate_dst (N := 32) rfl ?_); refine Kd.R_lit (Kd.int .i64) _ 3 ?hg (N := 32) ?hd (xs := ([x9_1, x5_2] : List Int)) (inner := [.int .i64 x9_1, .int .i64 x5_2]) (ok := fun _ => True) (okp := fun _ => True) ?hr ?hp (fun _ hk => hk) trivial (Below.refl _ _) (Nat.le_refl _) (by simp) ?_; (case hd => rfl); (case hg => rfl); (case hr => first | (go_simp; done) | (go_simp; rfl)); (case hp => exact (Reps.one (show Kd.M (Kd.int .i64) _ _ _ x9_1 [.int .i64 x9_1] from rfl) (Reps.one (show Kd.M (Kd.int .i64) _ _ _ x5_2 [.int .i64 x5_2] from rfl) (Reps.none _ _)))); intro v381 w11 ho12 hb hg_ hnew_; clear hg_ hnew_; (first | rw [← Ny380.out] at ho12 | (simp only [Int.reduceToNat] at ho12; rw [← Ny380.out] at ho12)); replace HO_3 := Aside0.mk (Kd.S_elder' (qS HO_3) (Kd.R_base ho12) hb); have HO382 := Aside0.mk (Kd.R_lower ho12 (below_size (qD HB))); replace HB := uD HB hb; clear hb ho12; obtain ⟨Ao14, co14, eo14⟩ := Kd.R_slice HO382.out; subst eo14) | ((with_reducible refine gate_builtin (b := .append) (xs := #[.tmp 29, .tmp 33]) rfl ?_); at_builtin; refine Kd.S_append (Kd.slice 3 (Kd.int .i64)) (w0 := w) w.heap.size rfl (.tmp 29) (.tmp 33) 42 22 (.slice none 0 0) 24 rfl Try.underlying42 info22 rfl (by decide) (by omega) u3 x3_2 y380 [.slice Ao14 y380.length co14] (fun _ => True) (fun k_ => some k_ = (.slice Ao14 y380.length co14 : Value).ownBlock) rfl rfl ?aP (fun k_ hk_ => ((Kd.R_mono (ok' := fun k_ => ((fun _ => True)) k_ ∧ some k_ ≠ (u3 : Value).ownBlock) (Kd.R_apart' (HO382.out) (Kd.S_typed HO_3.out) (by decide)) (fun k_ hk => ⟨trivial, hk.2⟩))).1 k_ hk_.symm) ?aF ?aO ?aB ?aS ?aL ?_; (case aP => exact Kd.M_row (Kd.R_mono (Kd.R_tight rfl (Kd.R_mono (ok' := fun k_ => ((fun _ => True)) k_ ∧ some k_ ≠ (u3 : Value).ownBlock) (Kd.R_apart' (HO382.out) (Kd.S_typed HO_3.out) (by decide)) (fun k_ hk => ⟨trivial, hk.2⟩))) (fun _ h_ => h_))); (case aB => exact (qD HB)); (case aF => exact (fun _ _ => trivial)); (case aO => exact (by (with_reducible repeat (first | apply Kd.S_alloc | apply Kd.S_drewN | apply Kd.S_drew)); exact Kd.S_mono HO_3.out (fun k_ hk => ⟨trivial, fun e_ => hk.2 e_⟩))); (case aS => exact (below_size (qD HB))); (case aL => have := LMc10.out; omega); intro v384 w13 ho hb hg hat; rw [← Ny383.out] at ho; replace HB := Aside0.mk (hb); have HO385 := Aside0.mk (ho); clear HO_3 HO382; clear ho hb hg hat)); try go_wp2_with (first | ((with_reducible refine gate_dst (N := 32) rfl ?_); refine Kd.R_lit (Kd.int .i64) _ 3 ?hg (N := 32) ?hd (xs := ([x9_1, x5_2] : List Int)) (inner := [.int .i64 x9_1, .int .i64 x5_2]) (ok := fun _ => True) (okp := fun _ => True) ?hr ?hp (fun _ hk => hk) trivial (Below.refl _ _) (Nat.le_refl _) (by simp) ?_; (case hd => rfl); (case hg => rfl); (case hr => first | (go_simp; done) | (go_simp; rfl)); (case hp => exact (Reps.one (show Kd.M (Kd.int .i64) _ _ _ x9_1 [.int .i64 x9_1] from rfl) (Reps.one (show Kd.M (Kd.int .i64) _ _ _ x5_2 [.int .i64 x5_2] from rfl) (Reps.none _ _)))); intro v381 w11 ho12 hb hg_ hnew_; clear hg_ hnew_; (first | rw [← Ny380.out] at ho12 | (simp only [Int.reduceToNat] at ho12; rw [← Ny380.out] at ho12)); replace HO_3 := Aside0.mk (Kd.S_elder' (qS HO_3) (Kd.R_base ho12) hb); have HO382 := Aside0.mk (Kd.R_lower ho12 (below_size (qD HB))); replace HB := uD HB hb; clear hb ho12; obtain ⟨Ao14, co14, eo14⟩ := Kd.R_slice HO382.out; subst eo14) | ((with_reducible refine gate_builtin (b := .append) (xs := #[.tmp 29, .tmp 33]) rfl ?_); at_builtin; refine Kd.S_append (Kd.slice 3 (Kd.int .i64)) (w0 := w) w.heap.size rfl (.tmp 29) (.tmp 33) 42 22 (.slice none 0 0) 24 rfl Try.underlying42 info22 rfl (by decide) (by omega) u3 x3_2 y380 [.slice Ao14 y380.length co14] (fun _ => True) (fun k_ => some k_ = (.slice Ao14 y380.length co14 : Value).ownBlock) rfl rfl ?aP (fun k_ hk_ => ((Kd.R_mono (ok' := fun k_ => ((fun _ => True)) k_ ∧ some k_ ≠ (u3 : Value).ownBlock) (Kd.R_apart' (HO382.out) (Kd.S_typed HO_3.out) (by decide)) (fun k_ hk => ⟨trivial, hk.2⟩))).1 k_ hk_.symm) ?aF ?aO ?aB ?aS ?aL ?_; (case aP => exact Kd.M_row (Kd.R_mono (Kd.R_tight rfl (Kd.R_mono (ok' := fun k_ => ((fun _ => True)) k_ ∧ some k_ ≠ (u3 : Value).ownBlock) (Kd.R_apart' (HO382.out) (Kd.S_typed HO_3.out) (by decide)) (fun k_ hk => ⟨trivial, hk.2⟩))) (fun _ h_ => h_))); (case aB => exact (qD HB)); (case aF => exact (fun _ _ => trivial)); (case aO => exact (by (with_reducible repeat (first | apply Kd.S_alloc | apply Kd.S_drewN | apply Kd.S_drew)); exact Kd.S_mono HO_3.out (fun k_ hk => ⟨trivial, fun e_ => hk.2 e_⟩))); (case aS => exact (below_size (qD HB))); (case aL => have := LMc10.out; omega); intro v384 w13 ho hb hg hat; rw [← Ny383.out] at ho; replace HB := Aside0.mk (hb); have HO385 := Aside0.mk (ho); clear HO_3 HO382; clear ho hb hg hat)))
                        go_roundg k2
                        case measure => have := HK1.out; have := HK2.out; omega
                        case rel => exact ⟨(y383), (wrap64 (x5_2 + 1)), (by first | rfl | (simp; done) | (simp [*]; done) | (simp [bne]; done)), H', ⟨by have := HK1.out; have := HK2.out; omega⟩, ⟨qS HO385⟩, ⟨qD HB⟩⟩
                      · rw [if_neg c10] at H
                        exact absurd H (by simp)
                    · rw [if_neg c9] at H
                      have c9b0 : decide ((rd l0 x5_2) < (rd l0 x9_1)) = false := decide_eq_false c9
                      clear c9
                      have H' := Aside0.mk H
                      clear H
                      have p378 : 0 ≤ (x9_1 : Int) := of_decide_eq_true (by first | (with_reducible assumption) | assumption)
                      have q378 : x9_1 < (l0.length : Int) := of_decide_eq_true (by first | (with_reducible assumption) | assumption)
                      obtain ⟨ad378, e378, hx378_0⟩ := Kd.at_int HR0.out x9_1 p378 q378
                      cases e378
                      replace hx378_0 := (HB.out.cell (World.block_lt_of_cell? w _ hx378_0)).trans hx378_0
                      replace p378 := eq_true p378
                      replace q378 := eq_true q378
                      have p379 : 0 ≤ (x5_2 : Int) := of_decide_eq_true (by first | (with_reducible assumption) | assumption)
                      have q379 : x5_2 < (l0.length : Int) := of_decide_eq_true (by first | (with_reducible assumption) | assumption)
                      obtain ⟨ad379, e379, hx379_0⟩ := Kd.at_int HR0.out x5_2 p379 q379
                      obtain rfl : ad378 = ad379 := (by injection e379)
                      replace hx379_0 := (HB.out.cell (World.block_lt_of_cell? w _ hx379_0)).trans hx379_0
                      replace p379 := eq_true p379
                      replace q379 := eq_true q379
                      go_wp2
                      repeat (go_quiet (fail); try go_wp2)
                      go_roundg k2
                      case measure => have := HK1.out; have := HK2.out; omega
                      case rel => exact ⟨(x3_2), (wrap64 (x5_2 + 1)), (by first | rfl | (simp; done) | (simp [*]; done) | (simp [bne]; done)), H', ⟨by have := HK1.out; have := HK2.out; omega⟩, ⟨qS HO_3⟩, ⟨qD HB⟩⟩
                  · rw [if_neg c8] at H
                    exact absurd H (by simp)
                · rw [if_neg c7] at H
                  exact absurd H (by simp)
              · rw [if_neg c6] at H
                exact absurd H (by simp)
            · rw [if_neg c5] at H
              have c5b0 : decide (x5_2 < (l0.length : Int)) = false := decide_eq_false c5
              clear c5
              have H' := Aside0.mk H
              clear H
              go_wp2
              repeat (go_quiet (fail); try go_wp2)
              go_roundg k2
              case measure => have := HK1.out; have := HK2.out; omega
              case rel => exact ⟨(x3_2), (wrap64 (x9_1 + 1)), (by first | rfl | (simp; done) | (simp [*]; done) | (simp [bne]; done)), H', ⟨by have := HK1.out; have := HK2.out; omega⟩, ⟨qS HO_3⟩, ⟨qD HB⟩⟩
      · rw [if_neg c4] at H
        have c4b0 : decide (x9_1 < (l0.length : Int)) = false := decide_eq_false c4
        clear c4
        obtain rfl := Option.some.inj H
        go_wp2
        repeat (go_quiet (fail); try go_wp2)
        go_ret
        exact ⟨_, by first | rfl | (simp [errW_none, errW_some] <;> rfl) | (simp [*, errW_none, errW_some] <;> rfl), qS HO_3, qD HB⟩

end Go.Proofs.Ytlmlamkbedfmhaa.P
end
section
namespace Go.Proofs.Ytlmlamkbedfmhaa.P
open Go.RowKit Go.Proofs.YtlmlamkbedfmhaaW.PrintWords Go.Proofs.YtlmlamkbedfmhaaW.PrintLast Go.Proofs.YtlmlamkbedfmhaaW.PrintMore
attribute [local go_sem] max2_int min2_int max_two min_two max_three min_three max_four min_four   -- for this text's walks alone
set_option linter.unusedVariables false
set_option linter.unusedSimpArgs false

/-! ### impl_inversions: function 175 -/
def impl_inversions.f (k : Nat) (l0 : List Int) : Option (Int) := (impl_inverted.f k l0).bind fun t386 => (some (t386.length : Int))
set_option maxHeartbeats 8000000 in
set_option maxRecDepth 100000 in
theorem impl_inversions.calls (k : Nat) (A0 : Option Addr) (c0 : Nat) (l0 : List Int) (r : Int) (w : World) (hr0 : Kd.C (Kd.int .i64) w A0 l0.length l0) (hc0 : l0.length ≤ c0) (h : impl_inversions.f k l0 = some r) :
    Calls Try.prog 175 #[.slice A0 l0.length c0] w fun e w' => e = .returned (.int .i64 r) ∧ Below w.heap.size w w' := by
  have HR0 := Aside0.mk hr0
  have HC0 := Aside0.mk hc0
  clear hr0 hc0
  have HB := Aside0.mk (Below.refl w.heap.size w)
  have H : ((impl_inverted.f k l0).bind fun t386 => (some (t386.length : Int))) = some r := h
  clear h
  replace H := Option.bind_eq_some_iff.mp H
  obtain ⟨t386, A20, H⟩ := H
  replace H : (some (t386.length : Int)) = some r := H
  have A2 := Aside0.mk A20
  clear A20
  obtain rfl := Option.some.inj H
  go_enter Try.func175, Try.ntmps175
  go_wp2_with (first | ((with_reducible refine gate_callee (f := 185) rfl ?_); refine gs (some 4) Try.func185 #[.slice A0 l0.length c0] ?_; (with_reducible refine (impl_inverted.calls k _ _ l0 t386 _ ?side1 ?side2 A2.out).mono ?_); (case side1 => repeat (first | exact HR0.out | (with_reducible refine Kd.C_alloc ?_ _) | (with_reducible refine Kd.C_drewN ?_ _) | (with_reducible refine Kd.C_drew ?_))); (case side2 => exact HC0.out); rintro e w3 ⟨v387, rfl, ho0, hb⟩; refine ⟨_, rfl, ?_⟩; have HO388 := Aside0.mk (Kd.S_lower ho0 (below_size (qD HB))); replace HB := uD HB hb; (try clear hb); (try clear hb2); (try clear hk); (try clear hi); (try clear ho0); obtain ⟨Ao4, co4, eo4⟩ := Kd.S_slice HO388.out; subst eo4))
  go_ret
  exact ⟨by first | rfl | (simp [errW_none, errW_some] <;> rfl) | (simp [*, errW_none, errW_some] <;> rfl), qD HB⟩

end Go.Proofs.Ytlmlamkbedfmhaa.P
end
section
namespace Go.Proofs.Ytlmlamkbedfmhaa.P
open Go.RowKit Go.Proofs.YtlmlamkbedfmhaaW.PrintWords Go.Proofs.YtlmlamkbedfmhaaW.PrintLast Go.Proofs.YtlmlamkbedfmhaaW.PrintMore
attribute [local go_sem] max2_int min2_int max_two min_two max_three min_three max_four min_four   -- for this text's walks alone
set_option linter.unusedVariables false
set_option linter.unusedSimpArgs false

/-! ### impl_needless: function 139 -/
def impl_needless.f (k : Nat) (a0_0 : Int) (l0_1 : List Int) : Option (Int) := (impl_result.f k a0_0 l0_1).bind fun t390 => ((impl_inversions.f k t390).bind fun t393 => (some (wrap64 ((l0_1.length : Int) - t393))))
def impl_needless.T1 : Bool × List (List Nat × List Nat) := (true, [([], []), ([0], [0]), ([1], [1]), ([], []), ([3], [3]), ([], []), ([5], [5]), ([4, 6], [4, 6]), ([7, 7], [7]), ([2, 8], [2, 8]), ([9, 8, 0, 1, 2, 3, 4, 5, 6, 7, 8, 9], [9])])
def impl_needless.B1 : List Nat := [0, 1, 3, 0, 8, 0, 32, 120, 248, 511, 1023]
theorem impl_needless.tab1 : rtab .any (opsOf Try.f139 1) = impl_needless.T1 := by kernel_rfl
theorem impl_needless.bits1 : waitsOk impl_needless.T1.2 impl_needless.B1 = true := by kernel_rfl
set_option maxHeartbeats 8000000 in
set_option maxRecDepth 100000 in
theorem impl_needless.calls (k : Nat) (a0_0 : Int) (A0_1 : Option Addr) (c0_1 : Nat) (l0_1 : List Int) (r : Int) (w : World) (hr0_1 : Kd.C (Kd.int .i64) w A0_1 l0_1.length l0_1) (hc0_1 : l0_1.length ≤ c0_1) (h : impl_needless.f k a0_0 l0_1 = some r) :
    Calls Try.prog 139 #[.agg #[.int .i64 a0_0, .slice A0_1 l0_1.length c0_1]] w fun e w' => e = .returned (.int .i64 r) ∧ Below w.heap.size w w' := by
  have hu26 := Try.underlying26
  have HR0_1 := Aside0.mk hr0_1
  have HC0_1 := Aside0.mk hc0_1
  clear hr0_1 hc0_1
  have HB := Aside0.mk (Below.refl w.heap.size w)
  have H : ((impl_result.f k a0_0 l0_1).bind fun t390 => ((impl_inversions.f k t390).bind fun t393 => (some (wrap64 ((l0_1.length : Int) - t393))))) = some r := h
  clear h
  replace H := Option.bind_eq_some_iff.mp H
  obtain ⟨t390, A20, H⟩ := H
  replace H : ((impl_inversions.f k t390).bind fun t393 => (some (wrap64 ((l0_1.length : Int) - t393)))) = some r := H
  have A2 := Aside0.mk A20
  clear A20
  replace H := Option.bind_eq_some_iff.mp H
  obtain ⟨t393, A30, H⟩ := H
  replace H : (some (wrap64 ((l0_1.length : Int) - t393))) = some r := H
  have A3 := Aside0.mk A30
  clear A30
  obtain rfl := Option.some.inj H
  go_enter Try.func139, Try.ntmps139
  try go_wp2_with (first | ((with_reducible refine gate_dst (N := 1) rfl ?_); refine bx 1 #[.int .i64 a0_0, .slice A0_1 l0_1.length c0_1] 26 ?_; intro gb389 hg w4 hbox hb; have BK389 := Aside0.mk (hbox); have GW389 := gE hg HB; have GE389 := gE hg HB; replace HB := uD HB hb; clear hb hbox hg))
  replace BK389 := Aside0.mk (blk_drew BK389.out)
  replace HB := Aside0.mk (below_drew1 HB.out)
  refine start_ (n := 11) (S := fun w' => w'.cell? ⟨gb389, 0, none⟩ = some (.int .i64 a0_0) ∧ w'.cell? ⟨gb389, 1, none⟩ = some (.slice A0_1 l0_1.length c0_1)) (ds := []) #[false, false, false, false, false, false, false, false, false, false, false] (by kernel_rfl) rfl rfl ⟨cl BK389 0, cl BK389 1⟩ (fun hHeld => ?_); refine with_tabW impl_needless.tab1 impl_needless.bits1 (fun HT_ HW_ => ?_)
  generalize w4.drew = w5 at BK389 HB hHeld ⊢
  refine pu 0 (some 3) #[true, false, false, false, false, false, false, false, false, false, false] HT_ ?_
  refine pu 3 (some 6) #[true, false, false, true, false, false, false, false, false, false, false] HT_ ?_
  refine pu 5 (some 8) #[true, false, false, true, false, true, false, false, false, false, false] HT_ ?_
  refine tk 1 (some 4) #[true, true, false, true, false, true, false, false, false, false, false] HT_ HW_ hHeld ?_
  refine pu 2 (some 5) #[true, true, true, true, false, true, false, false, false, false, false] HT_ ?_
  refine tk 4 (some 7) #[true, true, true, true, true, true, false, false, false, false, false] HT_ HW_ hHeld ?_
  refine tk 6 (some 9) #[true, true, true, true, true, true, true, false, false, false, false] HT_ HW_ hHeld ?_
  refine one_ (i := 7) (N := some 10) #[true, true, true, true, true, true, true, true, false, false, false] rfl rfl (one_of HT_.out (by kernel_rfl)) (by decide) (fun K hK => ?_)
  refine gt Try.func170 #[.int .i64 a0_0, .slice A0_1 l0_1.length c0_1] ?_
  with_reducible refine (impl_result.calls k a0_0 _ _ l0_1 t390 _ ?side1 ?side2 A2.out).mono ?_
  (case side1 => exact qC (Kd.C_below HR0_1.out HB.out))
  (case side2 => exact HC0_1.out)
  rintro e w6 ⟨v391, rfl, ho0, hb⟩
  refine ⟨_, rfl, ?_⟩
  have HO392 := Aside0.mk (Kd.R_lower ho0 (below_size (qD HB)))
  replace BK389 := uB BK389 hb
  replace HB := uD HB hb
  (try clear hb)
  (try clear hb2)
  (try clear hk)
  (try clear hi)
  (try clear ho0)
  obtain ⟨Ao7, co7, eo7⟩ := Kd.R_slice HO392.out
  (first | subst eo7 | (injection eo7 with f1_ f2_ f3_; have f4_ := f1_.symm; have f5_ := f3_.symm; clear f1_ f2_ f3_; subst f4_; subst f5_))
  refine hK.out _ _ ⟨cl BK389 0, cl BK389 1⟩ (fun hHeld => ?_)
  clear hK K
  refine nm (some 10) ?_
  refine one_ (i := 8) (N := some 11) #[true, true, true, true, true, true, true, true, true, false, false] rfl rfl (one_of HT_.out (by kernel_rfl)) (by decide) (fun K hK => ?_)
  refine gt Try.func175 #[.slice Ao7 t390.length co7] ?_
  with_reducible refine (impl_inversions.calls k _ _ t390 t393 _ ?side1 ?side2 A3.out).mono ?_
  (case side1 => exact qC (Kd.R_reads' HO392.out).2.2)
  (case side2 => exact (Kd.R_reads' HO392.out).2.1)
  rintro e w8 ⟨rfl, hb⟩
  refine ⟨_, rfl, ?_⟩
  replace HO392 := uR HO392 hb
  replace BK389 := uB BK389 hb
  replace HB := uD HB hb
  (try clear hb)
  (try clear hb2)
  (try clear hk)
  (try clear hi)
  refine hK.out _ _ ⟨cl BK389 0, cl BK389 1⟩ (fun hHeld => ?_)
  clear hK K
  refine nm (some 11) ?_
  refine pu 9 (some 12) #[true, true, true, true, true, true, true, true, true, true, false] HT_ ?_
  refine pu 10 (some 2) #[true, true, true, true, true, true, true, true, true, true, true] HT_ ?_
  refine done_ (done_of HT_.out (by kernel_rfl)) ?_
  try go_wp2
  go_ret
  exact ⟨by first | rfl | (simp [errW_none, errW_some] <;> rfl) | (simp [*, errW_none, errW_some] <;> rfl), qD HB⟩

end Go.Proofs.Ytlmlamkbedfmhaa.P
end
section
namespace Go.Proofs.Ytlmlamkbedfmhaa.P
open Go.RowKit Go.Proofs.YtlmlamkbedfmhaaW.PrintWords Go.Proofs.YtlmlamkbedfmhaaW.PrintLast Go.Proofs.YtlmlamkbedfmhaaW.PrintMore
attribute [local go_sem] max2_int min2_int max_two min_two max_three min_three max_four min_four   -- for this text's walks alone
set_option linter.unusedVariables false
set_option linter.unusedSimpArgs false

/-! ### impl_isLadder: function 93 -/
def ladderOk (n : Int) (l : List Int) : Bool := decide (2 ≤ n ∧ n ≤ 8) && (decide (l.length ≤ 60) && l.all (fun r => decide (0 ≤ r ∧ r ≤ n - 2)))
def impl_isLadder.f (a0_0 : Int) (l0_1 : List Int) : Option Bool := some (ladderOk a0_0 l0_1)
/-- What the closure says of a rung: it is out of range. -/
def impl_isLadder.bad (n x : Int) : Bool := !(decide (0 ≤ x ∧ x ≤ n - 2))
theorem impl_isLadder.betw (x lo hi : Int) : impl_between.f x lo hi = some (decide (lo ≤ x ∧ x ≤ hi)) := by
  unfold impl_between.f
  by_cases h : x ≥ lo
  · rw [if_pos h]; congr 1; by_cases h2 : x ≤ hi <;> simp [h2] <;> omega
  · rw [if_neg h]; congr 1; simp; omega
set_option maxRecDepth 100000 in
theorem impl_isLadder.closure (x n : Int) (g : Nat) (w : World) (hc : w.cell? ⟨g, 0, none⟩ = some (.int .i64 n)) (h2 : 2 ≤ n) (h8 : n ≤ 8) :
    Calls Try.prog 163 #[.int .i64 x, .pointer (some ⟨g, 0, none⟩)] w fun e w' => e = .returned (.bool (impl_isLadder.bad n x)) ∧ Drawn0 w w' := by
  have hw : wrap64 (n - 2) = n - 2 := by unfold wrap64; omega
  have B := fun W => impl_between.calls x 0 (n - 2) _ W (impl_isLadder.betw x 0 (n - 2))
  have HB := Aside0.mk B
  have HW := Aside0.mk hw
  clear B hw
  unfold impl_isLadder.bad
  generalize (decide (0 ≤ x ∧ x ≤ n - 2)) = b at *
  go_enter Try.func163, Try.ntmps163
  go_wp2_with (go_at_call 98; refine (HB.out _).mono ?_; rintro e w' ⟨rfl, ⟨m, rfl⟩⟩)
  go_ret
  exact ⟨rfl, ⟨⟨_, rfl⟩⟩⟩
def impl_isLadder.Idx (n : Int) (l : List Int) (w : World) (e : Ending) (w' : World) : Prop := ∃ i : Int, e = .returned (.int .i64 i) ∧ decide (0 ≤ i) = l.any (impl_isLadder.bad n) ∧ Drawn0 w w'
theorem impl_isLadder.any_no {n : Int} {l : List Int} (h : ∀ j : Nat, j < l.length → impl_isLadder.bad n (rd l j) = false) : l.any (impl_isLadder.bad n) = false := by
  rw [List.any_eq_false]
  intro x hx
  obtain ⟨j, hj, rfl⟩ := List.getElem_of_mem hx
  have := h j hj
  unfold rd at this
  simp [hj] at this
  simp [this]
theorem impl_isLadder.any_yes {n : Int} {l : List Int} {j : Nat} (hj : j < l.length) (h : impl_isLadder.bad n (rd l j) = true) : l.any (impl_isLadder.bad n) = true := by
  rw [List.any_eq_true]
  refine ⟨l[j], List.getElem_mem hj, ?_⟩
  unfold rd at h
  simpa [hj] using h
set_option maxHeartbeats 1000000 in
set_option maxRecDepth 100000 in
theorem impl_isLadder.index (A : Option Addr) (c : Nat) (l : List Int) (n : Int) (g : Nat) (w : World) (hr : Kd.C (Kd.int .i64) w A l.length l) (hl : l.length ≤ 60) (hc : w.cell? ⟨g, 0, none⟩ = some (.int .i64 n)) (h2 : 2 ≤ n) (h8 : n ≤ 8) :
    Calls Try.prog 182 #[.slice A l.length c, .func (.func 163) #[] #[.pointer (some ⟨g, 0, none⟩)]] w (impl_isLadder.Idx n l w) := by
  have HR := Aside0.mk hr
  clear hr
  have HC := fun x (m : Nat) => impl_isLadder.closure x n g (w.drewN m) (by simpa using hc) h2 h8
  have HX := Aside0.mk HC
  clear HC h2 h8
  go_enter Try.func182, Try.ntmps182
  go_wp2
  go_loopw [8] (fun v w' => ∃ k : Nat, k ≤ l.length ∧ v = .int .i64 k ∧ Aside0 (∀ j : Nat, j < k → impl_isLadder.bad n (rd l j) = false) ∧ Drawn0 w w') (fun v _ => l.length - (intOf v).toNat)
  case atStart => exact ⟨0, Nat.zero_le _, rfl, ⟨fun j hj => by omega⟩, Drawn0.refl _⟩
  case round =>
    obtain ⟨k, hk, rfl, HK, ⟨m, rfl⟩⟩ := hrel
    by_cases hlt : k < l.length
    · obtain ⟨ad, ea, hx⟩ := Kd.at_int HR.out (k : Int) (by omega) (by omega)
      cases ea
      rw [Int.toNat_natCast] at hx
      generalize hv : rd l (k : Int) = v at hx
      have HV := Aside0.mk hv
      clear hv
      cases hb : impl_isLadder.bad n v
      all_goals
        have HB := Aside0.mk hb
        clear hb
        have C1 := fun m' => HX.out v m'
        rw [HB.out] at C1
        have C2 := Aside0.mk C1
        clear C1
        go_wp2_with (go_at_call 163; refine (C2.out _).mono ?_; rintro e w' ⟨rfl, ⟨m', rfl⟩⟩)
      · go_roundw
        case rel =>
          refine ⟨k + 1, by omega, by go_num, ⟨fun j hj => ?_⟩, by repeat (first | exact Drawn0.refl _ | apply Drawn0.step)⟩
          rcases Nat.lt_succ_iff_lt_or_eq.1 hj with h | rfl
          · exact HK.out j h
          · rw [HV.out]; exact HB.out
        case measure => simp [intOf]; omega
      · go_ret
        exact ⟨k, rfl, by rw [impl_isLadder.any_yes hlt (by rw [HV.out]; exact HB.out)]; simp, by repeat (first | exact Drawn0.refl _ | apply Drawn0.step)⟩
    · obtain rfl : k = l.length := by omega
      go_wp2
      go_ret
      exact ⟨-1, rfl, by rw [impl_isLadder.any_no HK.out]; rfl, by repeat (first | exact Drawn0.refl _ | apply Drawn0.step)⟩
set_option maxHeartbeats 1000000 in
set_option maxRecDepth 100000 in
theorem impl_isLadder.contains (A : Option Addr) (c : Nat) (l : List Int) (n : Int) (g : Nat) (w : World) (hr : Kd.C (Kd.int .i64) w A l.length l) (hl : l.length ≤ 60) (hc : w.cell? ⟨g, 0, none⟩ = some (.int .i64 n)) (h2 : 2 ≤ n) (h8 : n ≤ 8) :
    Calls Try.prog 162 #[.slice A l.length c, .func (.func 163) #[] #[.pointer (some ⟨g, 0, none⟩)]] w fun e w' => e = .returned (.bool (l.any (impl_isLadder.bad n))) ∧ Drawn0 w w' := by
  have HI := Aside0.mk (impl_isLadder.index A c l n g w hr hl hc h2 h8)
  clear hr hl hc h2 h8
  go_enter Try.func162, Try.ntmps162
  go_wp2_with (go_at_call 182; refine HI.out.mono ?_; rintro e w' ⟨i, rfl, hi, ⟨m, rfl⟩⟩; have HD := Aside0.mk hi; clear hi)
  go_ret
  exact ⟨by rw [← HD.out]; rfl, ⟨⟨m, rfl⟩⟩⟩
set_option maxHeartbeats 1000000 in
set_option maxRecDepth 100000 in
theorem impl_isLadder.calls (a0_0 : Int) (A0_1 : Option Addr) (c0_1 : Nat) (l0_1 : List Int) (r : Bool) (w : World) (hr0_1 : Kd.C (Kd.int .i64) w A0_1 l0_1.length l0_1) (hc0_1 : l0_1.length ≤ c0_1) (h : impl_isLadder.f a0_0 l0_1 = some r) :
    Calls Try.prog 93 #[.agg #[.int .i64 a0_0, .slice A0_1 l0_1.length c0_1]] w fun e w' => e = .returned (.bool r) ∧ Below w.heap.size w w' := by
  obtain rfl := Option.some.inj h
  clear h hc0_1
  have B := fun W => impl_between.calls a0_0 2 8 _ W (impl_isLadder.betw a0_0 2 8)
  by_cases c1 : 2 ≤ a0_0 ∧ a0_0 ≤ 8
  · rw [decide_eq_true c1] at B
    have HB := Aside0.mk B
    clear B
    by_cases c2 : l0_1.length ≤ 60
    · have hres : ladderOk a0_0 l0_1 = !l0_1.any (impl_isLadder.bad a0_0) := by
        unfold ladderOk
        rw [decide_eq_true c1, decide_eq_true c2, Bool.true_and, Bool.true_and, List.not_any_eq_all_not]
        congr 1
        funext x
        simp [impl_isLadder.bad]
      have HS := Aside0.mk hres
      have HCn := Aside0.mk (fun W hr hc => impl_isLadder.contains A0_1 c0_1 l0_1 a0_0 w.heap.size W hr c2 hc c1.1 c1.2)
      have HR := Aside0.mk hr0_1
      have c2b : decide (l0_1.length ≤ 60) = true := decide_eq_true c2
      have c2c : decide ((l0_1.length : Int) ≤ 60) = true := decide_eq_true (by omega)
      clear hres hr0_1 c1 c2
      go_enter Try.func93, Try.ntmps93
      go_wp2_with (first | (go_at_call 98; refine (HB.out _).mono ?_; rintro e w' ⟨rfl, ⟨m, rfl⟩⟩) | (go_at_call 162; refine (HCn.out _ ?hr ?hc).mono ?_; (case hr => exact Kd.C_below HR.out (pw_below_drewN (below_alloc (Below.refl _ _) _) _)); (case hc => simp); rintro e w' ⟨rfl, ⟨m', rfl⟩⟩))
      go_ret
      exact ⟨by rw [HS.out]; rfl, by repeat (first | apply pw_below_drewN | apply below_alloc | exact Below.refl _ _)⟩
    · have hres : ladderOk a0_0 l0_1 = false := by
        unfold ladderOk
        rw [decide_eq_false c2]; simp
      have HS := Aside0.mk hres
      have c2b : decide (l0_1.length ≤ 60) = false := decide_eq_false c2
      have c2c : decide ((l0_1.length : Int) ≤ 60) = false := decide_eq_false (by omega)
      clear hres hr0_1 c1 c2
      go_enter Try.func93, Try.ntmps93
      go_wp2_with (first | (go_at_call 98; refine (HB.out _).mono ?_; rintro e w' ⟨rfl, ⟨m, rfl⟩⟩))
      go_ret
      exact ⟨by rw [HS.out]; rfl, by repeat (first | apply pw_below_drewN | apply below_alloc | exact Below.refl _ _)⟩
  · rw [decide_eq_false c1] at B
    have HB := Aside0.mk B
    clear B
    have hres : ladderOk a0_0 l0_1 = false := by
      unfold ladderOk
      rw [decide_eq_false c1]; simp
    have HS := Aside0.mk hres
    clear hres hr0_1 c1
    go_enter Try.func93, Try.ntmps93
    go_wp2_with (first | (go_at_call 98; refine (HB.out _).mono ?_; rintro e w' ⟨rfl, ⟨m, rfl⟩⟩))
    go_ret
    exact ⟨by rw [HS.out]; rfl, by repeat (first | apply pw_below_drewN | apply below_alloc | exact Below.refl _ _)⟩

end Go.Proofs.Ytlmlamkbedfmhaa.P
end
section
namespace Go.Proofs.Ytlmlamkbedfmhaa.P
open Go.RowKit Go.Proofs.YtlmlamkbedfmhaaW.PrintWords Go.Proofs.YtlmlamkbedfmhaaW.PrintLast Go.Proofs.YtlmlamkbedfmhaaW.PrintMore
attribute [local go_sem] max2_int min2_int max_two min_two max_three min_three max_four min_four   -- for this text's walks alone
set_option linter.unusedVariables false
set_option linter.unusedSimpArgs false

/-! ### spec_laDown: function 177 -/
def spec_laDown.l0 : Nat → Int → List Int → List Int → Int → Int → Option (List Int)
  | 0, _, _, _, _, _ => none
  | k + 1, x1, x5, x10, x11, x12 => if x12 < x11 then (if 0 ≤ x12 then (if x12 < (x10.length : Int) then ((spec_laOver.f x1 (rd x10 x12)).bind fun t425 => (if x5.length < 17592186044416 then (spec_laDown.l0 k t425 (x5 ++ [t425]) x10 x11 (wrap64 (x12 + 1))) else (none))) else (none)) else (none)) else (some x5)
def spec_laDown.f (k : Nat) (l0 : List Int) (a1 : Int) : Option (List Int) := spec_laDown.l0 k a1 (([a1] : List Int)) l0 (l0.length : Int) 0
set_option maxHeartbeats 8000000 in
set_option maxRecDepth 100000 in
theorem spec_laDown.calls (k : Nat) (A0 : Option Addr) (c0 : Nat) (l0 : List Int) (a1 : Int) (r : List Int) (w : World) (hr0 : Kd.C (Kd.int .i64) w A0 l0.length l0) (hc0 : l0.length ≤ c0) (h : spec_laDown.f k l0 a1 = some r) :
    Calls Try.prog 177 #[.slice A0 l0.length c0, .int .i64 a1] w fun e w' => ∃ v0_ : Value, e = .returned (v0_) ∧ Kd.R (Kd.int .i64) 3 w' w.heap.size (fun _ => True) v0_ r ∧ Below w.heap.size w w' := by
  have HR0 := Aside0.mk hr0
  have HC0 := Aside0.mk hc0
  clear hr0 hc0
  have HB := Aside0.mk (Below.refl w.heap.size w)
  have H : (spec_laDown.l0 k a1 (([a1] : List Int)) l0 (l0.length : Int) 0) = some r := h
  clear h
  obtain ⟨y421, hy421⟩ : ∃ y_ : List Int, y_ = (([a1] : List Int)) := ⟨_, rfl⟩
  replace H : (spec_laDown.l0 k a1 y421 l0 (l0.length : Int) 0) = some r := by first | (rw [hy421]; with_reducible exact H) | (have H2_ := (Option.bind_some _ _).symm.trans H; rw [hy421]; with_reducible exact H2_) | (have H2_ := (Option.bind_some _ _).symm.trans H; with_reducible exact H2_) | with_reducible exact H | (rw [hy421]; exact H) | exact H
  have Ny421 := Aside0.mk hy421
  clear hy421
  have H' := Aside0.mk H
  clear H
  go_enter Try.func177, Try.ntmps177
  go_wp2_with (first | ((with_reducible refine gate_dst (N := 9) rfl ?_); refine Kd.R_lit (Kd.int .i64) _ 3 ?hg (N := 9) ?hd (xs := ([a1] : List Int)) (inner := [.int .i64 a1]) (ok := fun _ => True) (okp := fun _ => True) ?hr ?hp (fun _ hk => hk) trivial (Below.refl _ _) (Nat.le_refl _) (by simp) ?_; (case hd => rfl); (case hg => rfl); (case hr => first | (go_simp; done) | (go_simp; rfl)); (case hp => exact (Reps.one (show Kd.M (Kd.int .i64) _ _ _ a1 [.int .i64 a1] from rfl) (Reps.none _ _))); intro v422 w3 ho4 hb hg_ hnew_; clear hg_ hnew_; (first | rw [← Ny421.out] at ho4 | (simp only [Int.reduceToNat] at ho4; rw [← Ny421.out] at ho4)); have HO423 := Aside0.mk (Kd.R_lower ho4 (below_size (qD HB))); replace HB := uD HB hb; clear hb ho4))
  go_loopg [1, 5, 12] k (fun kq v1 v5 v12 w' => ∃ (x1_1 : Int) (x5_1 : List Int) (x12_1 : Int), v1 = .int .i64 x1_1 ∧ v12 = .int .i64 x12_1 ∧ Aside0 (spec_laDown.l0 kq x1_1 x5_1 l0 (l0.length : Int) x12_1 = some r) ∧ Aside0 (kq ≤ k) ∧ Aside0 (Kd.R (Kd.int .i64) 3 w' w.heap.size (fun _ => True) v5 x5_1) ∧ Aside0 (Below w.heap.size w w'))
  case atStart => exact ⟨(a1), (y421), (0), (by first | rfl | (simp; done) | (simp [*]; done) | (simp [bne]; done)), (by first | rfl | (simp; done) | (simp [*]; done) | (simp [bne]; done)), H', ⟨Nat.le_refl _⟩, ⟨qR HO423⟩, ⟨qD HB⟩⟩
  case round =>
    clear H'
    try clear c1
    try clear p2
    obtain ⟨x1_1, x5_1, x12_1, rfl, rfl, HA, HK1, HO_5, HB⟩ := hrel
    cases gk with
    | zero => exact absurd HA.out (by simp [spec_laDown.l0])
    | succ k1 =>
      have H := HA.out
      clear HA
      simp only [spec_laDown.l0] at H
      by_cases c5 : x12_1 < (l0.length : Int)
      · rw [if_pos c5] at H
        have c5b0 : decide (x12_1 < (l0.length : Int)) = true := decide_eq_true c5
        clear c5
        by_cases c6 : 0 ≤ x12_1
        · rw [if_pos c6] at H
          have c6b0 : decide (0 ≤ x12_1) = true := decide_eq_true c6
          clear c6
          by_cases c7 : x12_1 < (l0.length : Int)
          · rw [if_pos c7] at H
            have c7b0 : decide (x12_1 < (l0.length : Int)) = true := decide_eq_true c7
            clear c7
            replace H := Option.bind_eq_some_iff.mp H
            obtain ⟨t425, A80, H⟩ := H
            replace H : (if x5_1.length < 17592186044416 then (spec_laDown.l0 k1 t425 (x5_1 ++ [t425]) l0 (l0.length : Int) (wrap64 (x12_1 + 1))) else (none)) = some r := H
            have A8 := Aside0.mk A80
            clear A80
            by_cases c9 : x5_1.length < 17592186044416
            · rw [if_pos c9] at H
              have LMc9 := Aside0.mk c9
              clear c9
              obtain ⟨y426, hy426⟩ : ∃ y_ : List Int, y_ = (x5_1 ++ [t425]) := ⟨_, rfl⟩
              replace H : (spec_laDown.l0 k1 t425 y426 l0 (l0.length : Int) (wrap64 (x12_1 + 1))) = some r := by first | (rw [hy426]; with_reducible exact H) | (have H2_ := (Option.bind_some _ _).symm.trans H; rw [hy426]; with_reducible exact H2_) | (have H2_ := (Option.bind_some _ _).symm.trans H; with_reducible exact H2_) | with_reducible exact H | (rw [hy426]; exact H) | exact H
              have Ny426 := Aside0.mk hy426
              clear hy426
              have H' := Aside0.mk H
              clear H
              have p424 : 0 ≤ (x12_1 : Int) := of_decide_eq_true (by first | (with_reducible assumption) | assumption)
              have q424 : x12_1 < (l0.length : Int) := of_decide_eq_true (by first | (with_reducible assumption) | assumption)
              obtain ⟨ad424, e424, hx424_0⟩ := Kd.at_int HR0.out x12_1 p424 q424
              cases e424
              replace hx424_0 := (HB.out.cell (World.block_lt_of_cell? w _ hx424_0)).trans hx424_0
              replace p424 := eq_true p424
              replace q424 := eq_true q424
              go_wp2_with (first | ((with_reducible refine gate_callee (f := 137) rfl ?_); refine gs (some 18) Try.func137 #[.int .i64 x1_1, .int .i64 (rd l0 x12_1)] ?_; (with_reducible refine (spec_laOver.calls x1_1 (rd l0 x12_1) t425 _ A8.out).mono ?_); rintro e w' ⟨rfl, ⟨nd, rfl⟩⟩; refine ⟨_, rfl, ?_⟩) | ((with_reducible refine gate_builtin (b := .append) (xs := #[.tmp 19, .tmp 21]) rfl ?_); at_builtin; refine Kd.R_append (Kd.int .i64) (w0 := w) w.heap.size rfl (.tmp 19) (.tmp 21) 22 3 (.int .i64 0) 8 rfl Try.underlying22 info3 rfl (by decide) (by omega) u5 x5_1 t425 [.int .i64 t425] (fun _ => True) (fun _ => False) rfl rfl ?aP (fun _ hk => hk.elim) ?aF ?aO ?aB ?aS ?aL ?_; (case aP => exact rfl); (case aB => exact (qD HB)); (case aF => exact (fun _ _ => trivial)); (case aO => exact (qR HO_5)); (case aS => exact (below_size (qD HB))); (case aL => have := LMc9.out; omega); intro v427 w10 ho hb hg hat; rw [← Ny426.out] at ho; replace HB := Aside0.mk (hb); have HO428 := Aside0.mk (ho); clear HO_5; clear ho hb hg hat))
              go_roundg k1
              case measure => have := HK1.out; omega
              case rel => exact ⟨(t425), (y426), (wrap64 (x12_1 + 1)), (by first | rfl | (simp; done) | (simp [*]; done) | (simp [bne]; done)), (by first | rfl | (simp; done) | (simp [*]; done) | (simp [bne]; done)), H', ⟨by have := HK1.out; omega⟩, ⟨qR HO428⟩, ⟨qD HB⟩⟩
            · rw [if_neg c9] at H
              exact absurd H (by simp)
          · rw [if_neg c7] at H
            exact absurd H (by simp)
        · rw [if_neg c6] at H
          exact absurd H (by simp)
      · rw [if_neg c5] at H
        have c5b0 : decide (x12_1 < (l0.length : Int)) = false := decide_eq_false c5
        clear c5
        obtain rfl := Option.some.inj H
        go_wp2
        go_ret
        exact ⟨_, by first | rfl | (simp [errW_none, errW_some] <;> rfl) | (simp [*, errW_none, errW_some] <;> rfl), qR HO_5, qD HB⟩

end Go.Proofs.Ytlmlamkbedfmhaa.P
end
section
namespace Go.Proofs.Ytlmlamkbedfmhaa.P
open Go.RowKit Go.Proofs.YtlmlamkbedfmhaaW.PrintWords Go.Proofs.YtlmlamkbedfmhaaW.PrintLast Go.Proofs.YtlmlamkbedfmhaaW.PrintMore
attribute [local go_sem] max2_int min2_int max_two min_two max_three min_three max_four min_four   -- for this text's walks alone
set_option linter.unusedVariables false
set_option linter.unusedSimpArgs false

/-! ### spec_laResult: function 142 -/
def spec_laResult.l0 : Nat → Int → List Int → List Int → Int → Option (List Int)
  | 0, _, _, _, _ => none
  | k + 1, x0, x1, x5, x6 => if x6 < x0 then ((spec_laDown.f k x1 x6).bind fun t429 => (if 0 ≤ (x1.length : Int) then (if (x1.length : Int) < (t429.length : Int) then (if x5.length < 17592186044416 then (spec_laResult.l0 k x0 x1 (x5 ++ [rd t429 (x1.length : Int)]) (wrap64 (x6 + 1))) else (none)) else (none)) else (none))) else (some x5)
def spec_laResult.f (k : Nat) (a0 : Int) (l1 : List Int) : Option (List Int) := spec_laResult.l0 k a0 l1 ([] : List Int) 0
set_option maxHeartbeats 8000000 in
set_option maxRecDepth 100000 in
theorem spec_laResult.calls (k : Nat) (a0 : Int) (A1 : Option Addr) (c1 : Nat) (l1 : List Int) (r : List Int) (w : World) (hr1 : Kd.C (Kd.int .i64) w A1 l1.length l1) (hc1 : l1.length ≤ c1) (h : spec_laResult.f k a0 l1 = some r) :
    Calls Try.prog 142 #[.int .i64 a0, .slice A1 l1.length c1] w fun e w' => ∃ v0_ : Value, e = .returned (v0_) ∧ Kd.R (Kd.int .i64) 3 w' w.heap.size (fun _ => True) v0_ r ∧ Below w.heap.size w w' := by
  have HR1 := Aside0.mk hr1
  have HC1 := Aside0.mk hc1
  clear hr1 hc1
  have HB := Aside0.mk (Below.refl w.heap.size w)
  have H : (spec_laResult.l0 k a0 l1 ([] : List Int) 0) = some r := h
  clear h
  have H' := Aside0.mk H
  clear H
  go_enter Try.func142, Try.ntmps142
  go_wp2
  go_loopg [5, 6] k (fun kq v5 v6 w' => ∃ (x5_1 : List Int) (x6_1 : Int), v6 = .int .i64 x6_1 ∧ Aside0 (spec_laResult.l0 kq a0 l1 x5_1 x6_1 = some r) ∧ Aside0 (kq ≤ k) ∧ Aside0 (Kd.R (Kd.int .i64) 3 w' w.heap.size (fun _ => True) v5 x5_1) ∧ Aside0 (Below w.heap.size w w'))
  case atStart => exact ⟨(([] : List Int)), (0), (by first | rfl | (simp; done) | (simp [*]; done) | (simp [bne]; done)), H', ⟨Nat.le_refl _⟩, ⟨by first | exact Kd.R_nil _ _ _ _ _ | exact Kd.N_nil _ _ _ _ _ | exact Kd.V_nil _ _ _ _ _ | exact Kd.Q_nil _ _ _ _ _ | exact Kd.S_nil _ _ _ _ _⟩, ⟨qD HB⟩⟩
  case round =>
    clear H'
    try clear c1
    try clear p2
    obtain ⟨x5_1, x6_1, rfl, HA, HK1, HO_5, HB⟩ := hrel
    cases gk with
    | zero => exact absurd HA.out (by simp [spec_laResult.l0])
    | succ k1 =>
      have H := HA.out
      clear HA
      simp only [spec_laResult.l0] at H
      by_cases c3 : x6_1 < a0
      · rw [if_pos c3] at H
        have c3b0 : decide (x6_1 < a0) = true := decide_eq_true c3
        clear c3
        replace H := Option.bind_eq_some_iff.mp H
        obtain ⟨t429, A40, H⟩ := H
        replace H : (if 0 ≤ (l1.length : Int) then (if (l1.length : Int) < (t429.length : Int) then (if x5_1.length < 17592186044416 then (spec_laResult.l0 k1 a0 l1 (x5_1 ++ [rd t429 (l1.length : Int)]) (wrap64 (x6_1 + 1))) else (none)) else (none)) else (none)) = some r := H
        have A4 := Aside0.mk A40
        clear A40
        by_cases c5 : 0 ≤ (l1.length : Int)
        · rw [if_pos c5] at H
          have c5b0 : decide (0 ≤ (l1.length : Int)) = true := decide_eq_true c5
          have c5b1 : decide (0 ≤ l1.length) = true := decide_eq_true (by omega)
          clear c5
          by_cases c6 : (l1.length : Int) < (t429.length : Int)
          · rw [if_pos c6] at H
            have c6b0 : decide ((l1.length : Int) < (t429.length : Int)) = true := decide_eq_true c6
            have c6b1 : decide (l1.length < t429.length) = true := decide_eq_true (Int.ofNat_lt.mp c6)
            clear c6
            by_cases c7 : x5_1.length < 17592186044416
            · rw [if_pos c7] at H
              have LMc7 := Aside0.mk c7
              clear c7
              obtain ⟨y433, hy433⟩ : ∃ y_ : List Int, y_ = (x5_1 ++ [rd t429 (l1.length : Int)]) := ⟨_, rfl⟩
              replace H : (spec_laResult.l0 k1 a0 l1 y433 (wrap64 (x6_1 + 1))) = some r := by first | (rw [hy433]; with_reducible exact H) | (have H2_ := (Option.bind_some _ _).symm.trans H; rw [hy433]; with_reducible exact H2_) | (have H2_ := (Option.bind_some _ _).symm.trans H; with_reducible exact H2_) | with_reducible exact H | (rw [hy433]; exact H) | exact H
              have Ny433 := Aside0.mk hy433
              clear hy433
              have H' := Aside0.mk H
              clear H
              go_wp2_with (first | ((with_reducible refine gate_callee (f := 177) rfl ?_); refine gs (some 15) Try.func177 #[.slice A1 l1.length c1, .int .i64 x6_1] ?_; (with_reducible refine (spec_laDown.calls k1 _ _ l1 x6_1 t429 _ ?side1 ?side2 A4.out).mono ?_); (case side1 => exact qC (Kd.C_below HR1.out HB.out)); (case side2 => exact HC1.out); rintro e w8 ⟨v430, rfl, ho0, hb⟩; refine ⟨_, rfl, ?_⟩; have HO431 := Aside0.mk (Kd.R_lower (Kd.R_new' ho0 (Kd.R_lt (qR HO_5))) (below_size (qD HB))); replace HO_5 := eR HO_5 ho0 hb; replace HB := uD HB hb; (try clear hb); (try clear hb2); (try clear hk); (try clear hi); (try clear ho0); obtain ⟨Ao9, co9, eo9⟩ := Kd.R_slice HO431.out; subst eo9; have p432 : 0 ≤ ((l1.length : Int) : Int) := of_decide_eq_true (by first | (with_reducible assumption) | assumption); have q432 : (l1.length : Int) < (t429.length : Int) := of_decide_eq_true (by first | (with_reducible assumption) | assumption); obtain ⟨ad432, e432, hx432_0⟩ := Kd.at_int (Kd.R_reads' HO431.out).2.2 (l1.length : Int) p432 q432; cases e432; (try simp only [Go.IntWalk.toNatUp] at hx432_0); replace p432 := eq_true p432; replace q432 := eq_true q432) | ((with_reducible refine gate_builtin (b := .append) (xs := #[.tmp 12, .tmp 20]) rfl ?_); at_builtin; refine Kd.R_append (Kd.int .i64) (w0 := w) w.heap.size rfl (.tmp 12) (.tmp 20) 22 3 (.int .i64 0) 8 rfl Try.underlying22 info3 rfl (by decide) (by omega) u5 x5_1 (rd t429 (l1.length : Int)) [.int .i64 (rd t429 (l1.length : Int))] (fun k_ => some k_ ≠ (.slice (some ad432) t429.length co9 : Value).ownBlock) (fun _ => False) rfl rfl ?aP (fun _ hk => hk.elim) ?aF ?aO ?aB ?aS ?aL ?_; (case aP => exact rfl); (case aB => exact (qD HB)); (case aF => exact (fun k_ hk => Kd.fresh' (Kd.R_lt (qR HO431)) k_ hk)); (case aO => exact (mR HO_5 (fun _ hk => hk.2))); (case aS => exact (below_size (qD HB))); (case aL => have := LMc7.out; omega); intro v434 w10 ho hb hg hat; rw [← Ny433.out] at ho; replace HO431 := Aside0.mk (Kd.R_after (ok := (fun _ => True)) (qR HO431) hg hat); replace HB := Aside0.mk (hb); have HO435 := Aside0.mk (ho); clear HO_5; clear ho hb hg hat))
              go_roundg k1
              case measure => have := HK1.out; omega
              case rel => exact ⟨(y433), (wrap64 (x6_1 + 1)), (by first | rfl | (simp; done) | (simp [*]; done) | (simp [bne]; done)), H', ⟨by have := HK1.out; omega⟩, ⟨mR HO435 (fun _ hk => trivial)⟩, ⟨qD HB⟩⟩
            · rw [if_neg c7] at H
              exact absurd H (by simp)
          · rw [if_neg c6] at H
            exact absurd H (by simp)
        · rw [if_neg c5] at H
          exact absurd H (by simp)
      · rw [if_neg c3] at H
        have c3b0 : decide (x6_1 < a0) = false := decide_eq_false c3
        clear c3
        obtain rfl := Option.some.inj H
        go_wp2
        go_ret
        exact ⟨_, by first | rfl | (simp [errW_none, errW_some] <;> rfl) | (simp [*, errW_none, errW_some] <;> rfl), qR HO_5, qD HB⟩

end Go.Proofs.Ytlmlamkbedfmhaa.P
end
section
namespace Go.Proofs.Ytlmlamkbedfmhaa.P
open Go.RowKit Go.Proofs.YtlmlamkbedfmhaaW.PrintWords Go.Proofs.YtlmlamkbedfmhaaW.PrintLast Go.Proofs.YtlmlamkbedfmhaaW.PrintMore
attribute [local go_sem] max2_int min2_int max_two min_two max_three min_three max_four min_four   -- for this text's walks alone
set_option linter.unusedVariables false
set_option linter.unusedSimpArgs false

/-! ### spec_l1All: function 161 -/
def spec_l1All.l0 : Nat → Int → Int → List Int → Int → Int → Option (Bool)
  | 0, _, _, _, _, _ => none
  | k + 1, x1, x2, x9, x10, x11 => if x11 < x10 then (if 0 ≤ x11 then (if x11 < (x9.length : Int) then ((spec_l1In.f (rd x9 x11) x1 x2).bind fun t417 => (if t417 = true then (spec_l1All.l0 k x1 x2 x9 x10 (wrap64 (x11 + 1))) else (some false))) else (none)) else (none)) else (some true)
def spec_l1All.f (k : Nat) (l0 : List Int) (a1 : Int) (a2 : Int) : Option (Bool) := spec_l1All.l0 k a1 a2 l0 (l0.length : Int) 0
set_option maxHeartbeats 8000000 in
set_option maxRecDepth 100000 in
theorem spec_l1All.calls (k : Nat) (A0 : Option Addr) (c0 : Nat) (l0 : List Int) (a1 : Int) (a2 : Int) (r : Bool) (w : World) (hr0 : Kd.C (Kd.int .i64) w A0 l0.length l0) (hc0 : l0.length ≤ c0) (h : spec_l1All.f k l0 a1 a2 = some r) :
    Calls Try.prog 161 #[.slice A0 l0.length c0, .int .i64 a1, .int .i64 a2] w fun e w' => e = .returned (.bool r) ∧ Drawn0 w w' := by
  have HR0 := Aside0.mk hr0
  have HC0 := Aside0.mk hc0
  clear hr0 hc0
  have H : (spec_l1All.l0 k a1 a2 l0 (l0.length : Int) 0) = some r := h
  clear h
  have H' := Aside0.mk H
  clear H
  go_enter Try.func161, Try.ntmps161
  go_wp2
  go_loopg [11] k (fun kq v11 w' => ∃ (x11_1 : Int), v11 = .int .i64 x11_1 ∧ Aside0 (spec_l1All.l0 kq a1 a2 l0 (l0.length : Int) x11_1 = some r) ∧ Aside0 (kq ≤ k) ∧ Drawn0 w w')
  case atStart => exact ⟨(0), (by first | rfl | (simp; done) | (simp [*]; done) | (simp [bne]; done)), H', ⟨Nat.le_refl _⟩, by repeat (first | exact Drawn0.refl _ | apply Drawn0.step)⟩
  case round =>
    clear H'
    try clear c1
    try clear p2
    obtain ⟨x11_1, rfl, HA, HK1, ⟨m1, rfl⟩⟩ := hrel
    cases gk with
    | zero => exact absurd HA.out (by simp [spec_l1All.l0])
    | succ k1 =>
      have H := HA.out
      clear HA
      simp only [spec_l1All.l0] at H
      by_cases c4 : x11_1 < (l0.length : Int)
      · rw [if_pos c4] at H
        have c4b0 : decide (x11_1 < (l0.length : Int)) = true := decide_eq_true c4
        clear c4
        by_cases c5 : 0 ≤ x11_1
        · rw [if_pos c5] at H
          have c5b0 : decide (0 ≤ x11_1) = true := decide_eq_true c5
          clear c5
          by_cases c6 : x11_1 < (l0.length : Int)
          · rw [if_pos c6] at H
            have c6b0 : decide (x11_1 < (l0.length : Int)) = true := decide_eq_true c6
            clear c6
            replace H := Option.bind_eq_some_iff.mp H
            obtain ⟨t417, A70, H⟩ := H
            replace H : (if t417 = true then (spec_l1All.l0 k1 a1 a2 l0 (l0.length : Int) (wrap64 (x11_1 + 1))) else (some false)) = some r := H
            have A7 := Aside0.mk A70
            clear A70
            by_cases c8 : t417 = true
            · subst c8
              have H1 : (spec_l1All.l0 k1 a1 a2 l0 (l0.length : Int) (wrap64 (x11_1 + 1))) = some r := by rw [if_pos rfl] at H; exact H
              clear H
              have H := H1
              clear H1
              have H' := Aside0.mk H
              clear H
              have p416 : 0 ≤ (x11_1 : Int) := of_decide_eq_true (by first | (with_reducible assumption) | assumption)
              have q416 : x11_1 < (l0.length : Int) := of_decide_eq_true (by first | (with_reducible assumption) | assumption)
              obtain ⟨ad416, e416, hx416_0⟩ := Kd.at_int HR0.out x11_1 p416 q416
              cases e416
              replace p416 := eq_true p416
              replace q416 := eq_true q416
              go_wp2_with (first | ((with_reducible refine gate_callee (f := 96) rfl ?_); refine gs (some 18) Try.func96 #[.int .i64 (rd l0 x11_1), .int .i64 a1, .int .i64 a2] ?_; (with_reducible refine (spec_l1In.calls (rd l0 x11_1) a1 a2 true _ A7.out).mono ?_); rintro e w' ⟨rfl, ⟨nd, rfl⟩⟩; refine ⟨_, rfl, ?_⟩))
              go_roundg k1
              case measure => have := HK1.out; omega
              case rel => exact ⟨(wrap64 (x11_1 + 1)), (by first | rfl | (simp; done) | (simp [*]; done) | (simp [bne]; done)), H', ⟨by have := HK1.out; omega⟩, by repeat (first | exact Drawn0.refl _ | apply Drawn0.step)⟩
            · replace c8 := Bool.eq_false_iff.mpr c8
              subst c8
              have H1 : (some false) = some r := by rw [if_neg (show ¬ (false = true) by decide)] at H; exact H
              clear H
              have H := H1
              clear H1
              obtain rfl := Option.some.inj H
              have p416 : 0 ≤ (x11_1 : Int) := of_decide_eq_true (by first | (with_reducible assumption) | assumption)
              have q416 : x11_1 < (l0.length : Int) := of_decide_eq_true (by first | (with_reducible assumption) | assumption)
              obtain ⟨ad416, e416, hx416_0⟩ := Kd.at_int HR0.out x11_1 p416 q416
              cases e416
              replace p416 := eq_true p416
              replace q416 := eq_true q416
              go_wp2_with (first | ((with_reducible refine gate_callee (f := 96) rfl ?_); refine gs (some 18) Try.func96 #[.int .i64 (rd l0 x11_1), .int .i64 a1, .int .i64 a2] ?_; (with_reducible refine (spec_l1In.calls (rd l0 x11_1) a1 a2 false _ A7.out).mono ?_); rintro e w' ⟨rfl, ⟨nd, rfl⟩⟩; refine ⟨_, rfl, ?_⟩))
              go_ret
              exact ⟨by first | rfl | (simp; done) | (simp [*]; done), by repeat (first | exact Drawn0.refl _ | apply Drawn0.step)⟩
          · rw [if_neg c6] at H
            exact absurd H (by simp)
        · rw [if_neg c5] at H
          exact absurd H (by simp)
      · rw [if_neg c4] at H
        have c4b0 : decide (x11_1 < (l0.length : Int)) = false := decide_eq_false c4
        clear c4
        obtain rfl := Option.some.inj H
        go_wp2
        go_ret
        exact ⟨by first | rfl | (simp; done) | (simp [*]; done), by repeat (first | exact Drawn0.refl _ | apply Drawn0.step)⟩

end Go.Proofs.Ytlmlamkbedfmhaa.P
end
section
namespace Go.Proofs.Ytlmlamkbedfmhaa.P
open Go.RowKit Go.Proofs.YtlmlamkbedfmhaaW.PrintWords Go.Proofs.YtlmlamkbedfmhaaW.PrintLast Go.Proofs.YtlmlamkbedfmhaaW.PrintMore
attribute [local go_sem] max2_int min2_int max_two min_two max_three min_three max_four min_four   -- for this text's walks alone
set_option linter.unusedVariables false
set_option linter.unusedSimpArgs false

/-! ### spec_laGood: function 90 -/
def spec_laGood.f (k : Nat) (a0_0 : Int) (l0_1 : List Int) : Option (Bool) := (spec_l1In.f a0_0 2 8).bind fun t419 => (if t419 = true then (if (l0_1.length : Int) ≤ 60 then ((spec_l1All.f k l0_1 0 (wrap64 (a0_0 - 2))).bind fun t420 => (some t420)) else (some false)) else (some false))
set_option maxHeartbeats 8000000 in
set_option maxRecDepth 100000 in
theorem spec_laGood.calls (k : Nat) (a0_0 : Int) (A0_1 : Option Addr) (c0_1 : Nat) (l0_1 : List Int) (r : Bool) (w : World) (hr0_1 : Kd.C (Kd.int .i64) w A0_1 l0_1.length l0_1) (hc0_1 : l0_1.length ≤ c0_1) (h : spec_laGood.f k a0_0 l0_1 = some r) :
    Calls Try.prog 90 #[.agg #[.int .i64 a0_0, .slice A0_1 l0_1.length c0_1]] w fun e w' => e = .returned (.bool r) ∧ Below w.heap.size w w' := by
  have hu26 := Try.underlying26
  have HR0_1 := Aside0.mk hr0_1
  have HC0_1 := Aside0.mk hc0_1
  clear hr0_1 hc0_1
  have HB := Aside0.mk (Below.refl w.heap.size w)
  have H : ((spec_l1In.f a0_0 2 8).bind fun t419 => (if t419 = true then (if (l0_1.length : Int) ≤ 60 then ((spec_l1All.f k l0_1 0 (wrap64 (a0_0 - 2))).bind fun t420 => (some t420)) else (some false)) else (some false))) = some r := h
  clear h
  replace H := Option.bind_eq_some_iff.mp H
  obtain ⟨t419, A20, H⟩ := H
  replace H : (if t419 = true then (if (l0_1.length : Int) ≤ 60 then ((spec_l1All.f k l0_1 0 (wrap64 (a0_0 - 2))).bind fun t420 => (some t420)) else (some false)) else (some false)) = some r := H
  have A2 := Aside0.mk A20
  clear A20
  by_cases c3 : t419 = true
  · subst c3
    have H1 : (if (l0_1.length : Int) ≤ 60 then ((spec_l1All.f k l0_1 0 (wrap64 (a0_0 - 2))).bind fun t420 => (some t420)) else (some false)) = some r := by rw [if_pos rfl] at H; exact H
    clear H
    have H := H1
    clear H1
    by_cases c4 : (l0_1.length : Int) ≤ 60
    · rw [if_pos c4] at H
      have c4b0 : decide ((l0_1.length : Int) ≤ 60) = true := decide_eq_true c4
      have c4b1 : decide (l0_1.length ≤ 60) = true := decide_eq_true (by omega)
      clear c4
      replace H := Option.bind_eq_some_iff.mp H
      obtain ⟨t420, A50, H⟩ := H
      replace H : (some t420) = some r := H
      have A5 := Aside0.mk A50
      clear A50
      obtain rfl := Option.some.inj H
      go_enter Try.func90, Try.ntmps90
      go_wp2_with (first | ((with_reducible refine gate_dst (N := 1) rfl ?_); (try (refine gate_guard (by rfl) ?_; dsimp only)); refine box_event ?hg (N := 1) ?hd (cs := #[.int .i64 a0_0, .slice A0_1 l0_1.length c0_1]) (t := 26) ?hr ?_; (case hd => rfl); (case hg => rfl); (case hr => first | (go_simp; done) | (go_simp; rfl)); intro gb418 hg w6 hbox hb; have BK418 := Aside0.mk (hbox); have GW418 := gE hg HB; have GE418 := gE hg HB; replace HB := uD HB hb; clear hb hbox hg; have hcz7_0 := cl BK418 0; have hcz7_1 := cl BK418 1; have hfz7_0 := blk_frozen BK418.out 0; have hfz7_1 := blk_frozen BK418.out 1) | ((with_reducible refine gate_callee (f := 96) rfl ?_); refine gs (some 5) Try.func96 #[.int .i64 a0_0, .int .i64 2, .int .i64 8] ?_; (with_reducible refine (spec_l1In.calls a0_0 2 8 true _ A2.out).mono ?_); rintro e w' ⟨rfl, ⟨nd, rfl⟩⟩; refine ⟨_, rfl, ?_⟩) | (go_at_call 161; (with_reducible refine (spec_l1All.calls k _ _ l0_1 0 (wrap64 (a0_0 - 2)) t420 _ ?side1 ?side2 A5.out).mono ?_); (case side1 => exact qC (Kd.C_below HR0_1.out (qD HB))); (case side2 => exact HC0_1.out); rintro e w' ⟨rfl, ⟨nd, rfl⟩⟩))
      go_ret
      exact ⟨by first | rfl | (simp [errW_none, errW_some] <;> rfl) | (simp [*, errW_none, errW_some] <;> rfl), qD HB⟩
    · rw [if_neg c4] at H
      have c4b0 : decide ((l0_1.length : Int) ≤ 60) = false := decide_eq_false c4
      have c4b1 : decide (l0_1.length ≤ 60) = false := decide_eq_false (by omega)
      clear c4
      obtain rfl := Option.some.inj H
      go_enter Try.func90, Try.ntmps90
      go_wp2_with (first | ((with_reducible refine gate_dst (N := 1) rfl ?_); (try (refine gate_guard (by rfl) ?_; dsimp only)); refine box_event ?hg (N := 1) ?hd (cs := #[.int .i64 a0_0, .slice A0_1 l0_1.length c0_1]) (t := 26) ?hr ?_; (case hd => rfl); (case hg => rfl); (case hr => first | (go_simp; done) | (go_simp; rfl)); intro gb418 hg w8 hbox hb; have BK418 := Aside0.mk (hbox); have GW418 := gE hg HB; have GE418 := gE hg HB; replace HB := uD HB hb; clear hb hbox hg; have hcz9_0 := cl BK418 0; have hcz9_1 := cl BK418 1; have hfz9_0 := blk_frozen BK418.out 0; have hfz9_1 := blk_frozen BK418.out 1) | ((with_reducible refine gate_callee (f := 96) rfl ?_); refine gs (some 5) Try.func96 #[.int .i64 a0_0, .int .i64 2, .int .i64 8] ?_; (with_reducible refine (spec_l1In.calls a0_0 2 8 true _ A2.out).mono ?_); rintro e w' ⟨rfl, ⟨nd, rfl⟩⟩; refine ⟨_, rfl, ?_⟩))
      go_ret
      exact ⟨by first | rfl | (simp [errW_none, errW_some] <;> rfl) | (simp [*, errW_none, errW_some] <;> rfl), qD HB⟩
  · replace c3 := Bool.eq_false_iff.mpr c3
    subst c3
    have H1 : (some false) = some r := by rw [if_neg (show ¬ (false = true) by decide)] at H; exact H
    clear H
    have H := H1
    clear H1
    obtain rfl := Option.some.inj H
    go_enter Try.func90, Try.ntmps90
    go_wp2_with (first | ((with_reducible refine gate_dst (N := 1) rfl ?_); (try (refine gate_guard (by rfl) ?_; dsimp only)); refine box_event ?hg (N := 1) ?hd (cs := #[.int .i64 a0_0, .slice A0_1 l0_1.length c0_1]) (t := 26) ?hr ?_; (case hd => rfl); (case hg => rfl); (case hr => first | (go_simp; done) | (go_simp; rfl)); intro gb418 hg w10 hbox hb; have BK418 := Aside0.mk (hbox); have GW418 := gE hg HB; have GE418 := gE hg HB; replace HB := uD HB hb; clear hb hbox hg; have hcz11_0 := cl BK418 0; have hcz11_1 := cl BK418 1; have hfz11_0 := blk_frozen BK418.out 0; have hfz11_1 := blk_frozen BK418.out 1) | ((with_reducible refine gate_callee (f := 96) rfl ?_); refine gs (some 5) Try.func96 #[.int .i64 a0_0, .int .i64 2, .int .i64 8] ?_; (with_reducible refine (spec_l1In.calls a0_0 2 8 false _ A2.out).mono ?_); rintro e w' ⟨rfl, ⟨nd, rfl⟩⟩; refine ⟨_, rfl, ?_⟩))
    go_ret
    exact ⟨by first | rfl | (simp [errW_none, errW_some] <;> rfl) | (simp [*, errW_none, errW_some] <;> rfl), qD HB⟩

end Go.Proofs.Ytlmlamkbedfmhaa.P
end
section
namespace Go.Proofs.Ytlmlamkbedfmhaa.P
open Go.RowKit Go.Proofs.YtlmlamkbedfmhaaW.PrintWords Go.Proofs.YtlmlamkbedfmhaaW.PrintLast Go.Proofs.YtlmlamkbedfmhaaW.PrintMore
attribute [local go_sem] max2_int min2_int max_two min_two max_three min_three max_four min_four   -- for this text's walks alone
set_option linter.unusedVariables false
set_option linter.unusedSimpArgs false

/-! ### spec_gaLasting: function 140 -/
def spec_gaLasting.f (k : Nat) (a0_0 : Int) (l0_1 : List Int) : Option (Bool) := (spec_laGood.f k a0_0 l0_1).bind fun t437 => (if t437 = true then ((spec_laResult.f k a0_0 l0_1).bind fun t438 => ((spec_lsInversions.f k t438).bind fun t441 => (some ((l0_1.length : Int) == (t441.length : Int))))) else (some false))
def spec_gaLasting.T1 : Bool × List (List Nat × List Nat) := (true, [([], []), ([0], [0]), ([1, 1], [1]), ([2], [2]), ([3, 2], [2, 3]), ([4, 2], [2, 4]), ([2], [2]), ([6, 2], [2, 6]), ([2], [2]), ([8, 2], [2, 8]), ([7, 9, 2, 2], [2, 7, 9]), ([10, 10, 2], [2, 10]), ([11, 2], [2, 11]), ([5, 12, 2], [2, 5, 12]), ([2, 13], [2, 13]), ([14, 11, 0, 1, 2, 3, 4, 5, 6, 7, 8, 9, 10, 11, 12, 13, 14], [14])])
def spec_gaLasting.B1 : List Nat := [0, 1, 3, 7, 15, 31, 7, 71, 7, 263, 967, 1991, 4039, 8191, 16383, 32767]
theorem spec_gaLasting.tab1 : rtab .any (opsOf Try.f140 1) = spec_gaLasting.T1 := by kernel_rfl
theorem spec_gaLasting.bits1 : waitsOk spec_gaLasting.T1.2 spec_gaLasting.B1 = true := by kernel_rfl
set_option maxHeartbeats 8000000 in
set_option maxRecDepth 100000 in
theorem spec_gaLasting.calls (k : Nat) (a0_0 : Int) (A0_1 : Option Addr) (c0_1 : Nat) (l0_1 : List Int) (r : Bool) (w : World) (hr0_1 : Kd.C (Kd.int .i64) w A0_1 l0_1.length l0_1) (hc0_1 : l0_1.length ≤ c0_1) (h : spec_gaLasting.f k a0_0 l0_1 = some r) :
    Calls Try.prog 140 #[.agg #[.int .i64 a0_0, .slice A0_1 l0_1.length c0_1]] w fun e w' => e = .returned (.bool r) ∧ Below w.heap.size w w' := by
  have hu26 := Try.underlying26
  have HR0_1 := Aside0.mk hr0_1
  have HC0_1 := Aside0.mk hc0_1
  clear hr0_1 hc0_1
  have HB := Aside0.mk (Below.refl w.heap.size w)
  have H : ((spec_laGood.f k a0_0 l0_1).bind fun t437 => (if t437 = true then ((spec_laResult.f k a0_0 l0_1).bind fun t438 => ((spec_lsInversions.f k t438).bind fun t441 => (some ((l0_1.length : Int) == (t441.length : Int))))) else (some false))) = some r := h
  clear h
  replace H := Option.bind_eq_some_iff.mp H
  obtain ⟨t437, A20, H⟩ := H
  replace H : (if t437 = true then ((spec_laResult.f k a0_0 l0_1).bind fun t438 => ((spec_lsInversions.f k t438).bind fun t441 => (some ((l0_1.length : Int) == (t441.length : Int))))) else (some false)) = some r := H
  have A2 := Aside0.mk A20
  clear A20
  by_cases c3 : t437 = true
  · subst c3
    have H1 : ((spec_laResult.f k a0_0 l0_1).bind fun t438 => ((spec_lsInversions.f k t438).bind fun t441 => (some ((l0_1.length : Int) == (t441.length : Int))))) = some r := by rw [if_pos rfl] at H; exact H
    clear H
    have H := H1
    clear H1
    replace H := Option.bind_eq_some_iff.mp H
    obtain ⟨t438, A40, H⟩ := H
    replace H : ((spec_lsInversions.f k t438).bind fun t441 => (some ((l0_1.length : Int) == (t441.length : Int)))) = some r := H
    have A4 := Aside0.mk A40
    clear A40
    replace H := Option.bind_eq_some_iff.mp H
    obtain ⟨t441, A50, H⟩ := H
    replace H : (some ((l0_1.length : Int) == (t441.length : Int))) = some r := H
    have A5 := Aside0.mk A50
    clear A50
    obtain rfl := Option.some.inj H
    go_enter Try.func140, Try.ntmps140
    try go_wp2_with (first | ((with_reducible refine gate_dst (N := 1) rfl ?_); (try (refine gate_guard (by rfl) ?_; dsimp only)); refine box_event ?hg (N := 1) ?hd (cs := #[.int .i64 a0_0, .slice A0_1 l0_1.length c0_1]) (t := 26) ?hr ?_; (case hd => rfl); (case hg => rfl); (case hr => first | (go_simp; done) | (go_simp; rfl)); intro gb436 hg w6 hbox hb; have BK436 := Aside0.mk (hbox); have GW436 := gE hg HB; have GE436 := gE hg HB; replace HB := uD HB hb; clear hb hbox hg))
    replace BK436 := Aside0.mk (blk_drew BK436.out)
    replace HB := Aside0.mk (below_drew1 HB.out)
    refine start_ (n := 16) (S := fun w' => w'.cell? ⟨gb436, 0, none⟩ = some (.int .i64 a0_0) ∧ w'.cell? ⟨gb436, 1, none⟩ = some (.slice A0_1 l0_1.length c0_1)) (ds := []) #[false, false, false, false, false, false, false, false, false, false, false, false, false, false, false, false] (by kernel_rfl) rfl rfl ⟨cl BK436 0, cl BK436 1⟩ (fun hHeld => ?_); refine with_tabW spec_gaLasting.tab1 spec_gaLasting.bits1 (fun HT_ HW_ => ?_)
    generalize w6.drew = w7 at BK436 HB hHeld ⊢
    refine tk 0 (some 3) #[true, false, false, false, false, false, false, false, false, false, false, false, false, false, false, false] HT_ HW_ hHeld ?_
    refine one_ (i := 1) (N := some 4) #[true, true, false, false, false, false, false, false, false, false, false, false, false, false, false, false] rfl rfl (one_of HT_.out (by kernel_rfl)) (by decide) (fun K hK => ?_)
    refine gt Try.func90 #[.agg #[.int .i64 a0_0, .slice A0_1 l0_1.length c0_1]] ?_
    with_reducible refine (spec_laGood.calls k a0_0 _ _ l0_1 true _ ?side1 ?side2 A2.out).mono ?_
    (case side1 => exact qC (Kd.C_below HR0_1.out HB.out))
    (case side2 => exact HC0_1.out)
    rintro e w8 ⟨rfl, hb⟩
    refine ⟨_, rfl, ?_⟩
    replace BK436 := uB BK436 hb
    replace HB := uD HB hb
    (try clear hb)
    (try clear hb2)
    (try clear hk)
    (try clear hi)
    refine hK.out _ _ ⟨cl BK436 0, cl BK436 1⟩ (fun hHeld => ?_)
    clear hK K
    refine nm (some 4) ?_
    refine pu 2 (some 5) #[true, true, true, false, false, false, false, false, false, false, false, false, false, false, false, false] HT_ ?_
    refine pu 3 (some 6) #[true, true, true, true, false, false, false, false, false, false, false, false, false, false, false, false] HT_ ?_
    refine pu 6 (some 9) #[true, true, true, true, false, false, true, false, false, false, false, false, false, false, false, false] HT_ ?_
    refine pu 8 (some 11) #[true, true, true, true, false, false, true, false, true, false, false, false, false, false, false, false] HT_ ?_
    refine tk 4 (some 7) #[true, true, true, true, true, false, true, false, true, false, false, false, false, false, false, false] HT_ HW_ hHeld ?_
    refine pu 5 (some 8) #[true, true, true, true, true, true, true, false, true, false, false, false, false, false, false, false] HT_ ?_
    refine tk 7 (some 10) #[true, true, true, true, true, true, true, true, true, false, false, false, false, false, false, false] HT_ HW_ hHeld ?_
    refine tk 9 (some 12) #[true, true, true, true, true, true, true, true, true, true, false, false, false, false, false, false] HT_ HW_ hHeld ?_
    refine one_ (i := 10) (N := some 13) #[true, true, true, true, true, true, true, true, true, true, true, false, false, false, false, false] rfl rfl (one_of HT_.out (by kernel_rfl)) (by decide) (fun K hK => ?_)
    refine gt Try.func142 #[.int .i64 a0_0, .slice A0_1 l0_1.length c0_1] ?_
    with_reducible refine (spec_laResult.calls k a0_0 _ _ l0_1 t438 _ ?side1 ?side2 A4.out).mono ?_
    (case side1 => exact qC (Kd.C_below HR0_1.out HB.out))
    (case side2 => exact HC0_1.out)
    rintro e w9 ⟨v439, rfl, ho0, hb⟩
    refine ⟨_, rfl, ?_⟩
    have HO440 := Aside0.mk (Kd.R_lower ho0 (below_size (qD HB)))
    replace BK436 := uB BK436 hb
    replace HB := uD HB hb
    (try clear hb)
    (try clear hb2)
    (try clear hk)
    (try clear hi)
    (try clear ho0)
    obtain ⟨Ao10, co10, eo10⟩ := Kd.R_slice HO440.out
    (first | subst eo10 | (injection eo10 with f1_ f2_ f3_; have f4_ := f1_.symm; have f5_ := f3_.symm; clear f1_ f2_ f3_; subst f4_; subst f5_))
    refine hK.out _ _ ⟨cl BK436 0, cl BK436 1⟩ (fun hHeld => ?_)
    clear hK K
    refine nm (some 13) ?_
    refine one_ (i := 11) (N := some 14) #[true, true, true, true, true, true, true, true, true, true, true, true, false, false, false, false] rfl rfl (one_of HT_.out (by kernel_rfl)) (by decide) (fun K hK => ?_)
    refine gt Try.func176 #[.slice Ao10 t438.length co10] ?_
    with_reducible refine (spec_lsInversions.calls k _ _ t438 t441 _ ?side1 ?side2 A5.out).mono ?_
    (case side1 => exact qC (Kd.R_reads' HO440.out).2.2)
    (case side2 => exact (Kd.R_reads' HO440.out).2.1)
    rintro e w11 ⟨v442, rfl, ho0, hb⟩
    refine ⟨_, rfl, ?_⟩
    have HO443 := Aside0.mk (Kd.S_lower (Kd.S_new' ho0 (Kd.R_lt (qR HO440))) (below_size (qD HB)))
    replace HO440 := uR HO440 hb
    replace BK436 := uB BK436 hb
    replace HB := uD HB hb
    (try clear hb)
    (try clear hb2)
    (try clear hk)
    (try clear hi)
    (try clear ho0)
    obtain ⟨Ao12, co12, eo12⟩ := Kd.S_slice HO443.out
    (first | subst eo12 | (injection eo12 with f1_ f2_ f3_; have f4_ := f1_.symm; have f5_ := f3_.symm; clear f1_ f2_ f3_; subst f4_; subst f5_))
    refine hK.out _ _ ⟨cl BK436 0, cl BK436 1⟩ (fun hHeld => ?_)
    clear hK K
    refine nm (some 14) ?_
    refine pu 12 (some 15) #[true, true, true, true, true, true, true, true, true, true, true, true, true, false, false, false] HT_ ?_
    refine pu 13 (some 16) #[true, true, true, true, true, true, true, true, true, true, true, true, true, true, false, false] HT_ ?_
    refine pu 14 (some 17) #[true, true, true, true, true, true, true, true, true, true, true, true, true, true, true, false] HT_ ?_
    refine pu 15 (some 2) #[true, true, true, true, true, true, true, true, true, true, true, true, true, true, true, true] HT_ ?_
    refine done_ (done_of HT_.out (by kernel_rfl)) ?_
    try go_wp2
    go_ret
    exact ⟨by first | rfl | (simp [errW_none, errW_some] <;> rfl) | (simp [*, errW_none, errW_some] <;> rfl), qD HB⟩
  · replace c3 := Bool.eq_false_iff.mpr c3
    subst c3
    have H1 : (some false) = some r := by rw [if_neg (show ¬ (false = true) by decide)] at H; exact H
    clear H
    have H := H1
    clear H1
    obtain rfl := Option.some.inj H
    go_enter Try.func140, Try.ntmps140
    try go_wp2_with (first | ((with_reducible refine gate_dst (N := 1) rfl ?_); (try (refine gate_guard (by rfl) ?_; dsimp only)); refine box_event ?hg (N := 1) ?hd (cs := #[.int .i64 a0_0, .slice A0_1 l0_1.length c0_1]) (t := 26) ?hr ?_; (case hd => rfl); (case hg => rfl); (case hr => first | (go_simp; done) | (go_simp; rfl)); intro gb436 hg w13 hbox hb; have BK436 := Aside0.mk (hbox); have GW436 := gE hg HB; have GE436 := gE hg HB; replace HB := uD HB hb; clear hb hbox hg))
    replace BK436 := Aside0.mk (blk_drew BK436.out)
    replace HB := Aside0.mk (below_drew1 HB.out)
    refine start_ (n := 16) (S := fun w' => w'.cell? ⟨gb436, 0, none⟩ = some (.int .i64 a0_0) ∧ w'.cell? ⟨gb436, 1, none⟩ = some (.slice A0_1 l0_1.length c0_1)) (ds := []) #[false, false, false, false, false, false, false, false, false, false, false, false, false, false, false, false] (by kernel_rfl) rfl rfl ⟨cl BK436 0, cl BK436 1⟩ (fun hHeld => ?_); refine with_tabW spec_gaLasting.tab1 spec_gaLasting.bits1 (fun HT_ HW_ => ?_)
    generalize w13.drew = w14 at BK436 HB hHeld ⊢
    refine tk 0 (some 3) #[true, false, false, false, false, false, false, false, false, false, false, false, false, false, false, false] HT_ HW_ hHeld ?_
    refine one_ (i := 1) (N := some 4) #[true, true, false, false, false, false, false, false, false, false, false, false, false, false, false, false] rfl rfl (one_of HT_.out (by kernel_rfl)) (by decide) (fun K hK => ?_)
    refine gt Try.func90 #[.agg #[.int .i64 a0_0, .slice A0_1 l0_1.length c0_1]] ?_
    with_reducible refine (spec_laGood.calls k a0_0 _ _ l0_1 false _ ?side1 ?side2 A2.out).mono ?_
    (case side1 => exact qC (Kd.C_below HR0_1.out HB.out))
    (case side2 => exact HC0_1.out)
    rintro e w15 ⟨rfl, hb⟩
    refine ⟨_, rfl, ?_⟩
    replace BK436 := uB BK436 hb
    replace HB := uD HB hb
    (try clear hb)
    (try clear hb2)
    (try clear hk)
    (try clear hi)
    refine hK.out _ _ ⟨cl BK436 0, cl BK436 1⟩ (fun hHeld => ?_)
    clear hK K
    refine nm (some 4) ?_
    refine pu 2 (some 5) #[true, true, true, false, false, false, false, false, false, false, false, false, false, false, false, false] HT_ ?_
    refine pure_ (i := 3) (N := some 6) (v := undef) (a' := ?_) #[true, true, true, true, false, false, false, false, false, false, false, false, false, false, false, false] rfl rfl (any_of HT_.out (by kernel_rfl)) (fun _ _ _ h => h) (Or.inr ⟨by rfl, rfl⟩) ?_ ?_
    rotate_left
    · simp only [Act.put, List.setIfInBounds_toArray, List.set_cons_zero, List.set_cons_succ, i64_w, i32_w]
      rfl
    refine pure_ (i := 4) (N := some 7) (v := undef) (a' := ?_) #[true, true, true, true, true, false, false, false, false, false, false, false, false, false, false, false] rfl rfl (any_of HT_.out (by kernel_rfl)) (fun _ _ _ h => h) (Or.inr ⟨by rfl, rfl⟩) ?_ ?_
    rotate_left
    · simp only [Act.put, List.setIfInBounds_toArray, List.set_cons_zero, List.set_cons_succ, i64_w, i32_w]
      rfl
    refine pure_ (i := 5) (N := some 8) (v := undef) (a' := ?_) #[true, true, true, true, true, true, false, false, false, false, false, false, false, false, false, false] rfl rfl (any_of HT_.out (by kernel_rfl)) (fun _ _ _ h => h) (Or.inr ⟨by rfl, rfl⟩) ?_ ?_
    rotate_left
    · simp only [Act.put, List.setIfInBounds_toArray, List.set_cons_zero, List.set_cons_succ, i64_w, i32_w]
      rfl
    refine pure_ (i := 6) (N := some 9) (v := undef) (a' := ?_) #[true, true, true, true, true, true, true, false, false, false, false, false, false, false, false, false] rfl rfl (any_of HT_.out (by kernel_rfl)) (fun _ _ _ h => h) (Or.inr ⟨by rfl, rfl⟩) ?_ ?_
    rotate_left
    · simp only [Act.put, List.setIfInBounds_toArray, List.set_cons_zero, List.set_cons_succ, i64_w, i32_w]
      rfl
    refine pure_ (i := 7) (N := some 10) (v := undef) (a' := ?_) #[true, true, true, true, true, true, true, true, false, false, false, false, false, false, false, false] rfl rfl (any_of HT_.out (by kernel_rfl)) (fun _ _ _ h => h) (Or.inr ⟨by rfl, rfl⟩) ?_ ?_
    rotate_left
    · simp only [Act.put, List.setIfInBounds_toArray, List.set_cons_zero, List.set_cons_succ, i64_w, i32_w]
      rfl
    refine pure_ (i := 8) (N := some 11) (v := undef) (a' := ?_) #[true, true, true, true, true, true, true, true, true, false, false, false, false, false, false, false] rfl rfl (any_of HT_.out (by kernel_rfl)) (fun _ _ _ h => h) (Or.inr ⟨by rfl, rfl⟩) ?_ ?_
    rotate_left
    · simp only [Act.put, List.setIfInBounds_toArray, List.set_cons_zero, List.set_cons_succ, i64_w, i32_w]
      rfl
    refine pure_ (i := 9) (N := some 12) (v := undef) (a' := ?_) #[true, true, true, true, true, true, true, true, true, true, false, false, false, false, false, false] rfl rfl (any_of HT_.out (by kernel_rfl)) (fun _ _ _ h => h) (Or.inr ⟨by rfl, rfl⟩) ?_ ?_
    rotate_left
    · simp only [Act.put, List.setIfInBounds_toArray, List.set_cons_zero, List.set_cons_succ, i64_w, i32_w]
      rfl
    refine pure_ (i := 10) (N := some 13) (v := undef) (a' := ?_) #[true, true, true, true, true, true, true, true, true, true, true, false, false, false, false, false] rfl rfl (any_of HT_.out (by kernel_rfl)) (fun _ _ _ h => h) (Or.inr ⟨by rfl, rfl⟩) ?_ ?_
    rotate_left
    · simp only [Act.put, List.setIfInBounds_toArray, List.set_cons_zero, List.set_cons_succ, i64_w, i32_w]
      rfl
    refine pure_ (i := 11) (N := some 14) (v := undef) (a' := ?_) #[true, true, true, true, true, true, true, true, true, true, true, true, false, false, false, false] rfl rfl (any_of HT_.out (by kernel_rfl)) (fun _ _ _ h => h) (Or.inr ⟨by rfl, rfl⟩) ?_ ?_
    rotate_left
    · simp only [Act.put, List.setIfInBounds_toArray, List.set_cons_zero, List.set_cons_succ, i64_w, i32_w]
      rfl
    refine pure_ (i := 12) (N := some 15) (v := undef) (a' := ?_) #[true, true, true, true, true, true, true, true, true, true, true, true, true, false, false, false] rfl rfl (any_of HT_.out (by kernel_rfl)) (fun _ _ _ h => h) (Or.inr ⟨by rfl, rfl⟩) ?_ ?_
    rotate_left
    · simp only [Act.put, List.setIfInBounds_toArray, List.set_cons_zero, List.set_cons_succ, i64_w, i32_w]
      rfl
    refine pure_ (i := 13) (N := some 16) (v := undef) (a' := ?_) #[true, true, true, true, true, true, true, true, true, true, true, true, true, true, false, false] rfl rfl (any_of HT_.out (by kernel_rfl)) (fun _ _ _ h => h) (Or.inr ⟨by rfl, rfl⟩) ?_ ?_
    rotate_left
    · simp only [Act.put, List.setIfInBounds_toArray, List.set_cons_zero, List.set_cons_succ, i64_w, i32_w]
      rfl
    refine pu 14 (some 17) #[true, true, true, true, true, true, true, true, true, true, true, true, true, true, true, false] HT_ ?_
    refine pu 15 (some 2) #[true, true, true, true, true, true, true, true, true, true, true, true, true, true, true, true] HT_ ?_
    refine done_ (done_of HT_.out (by kernel_rfl)) ?_
    try go_wp2
    go_ret
    exact ⟨by first | rfl | (simp [errW_none, errW_some] <;> rfl) | (simp [*, errW_none, errW_some] <;> rfl), qD HB⟩

end Go.Proofs.Ytlmlamkbedfmhaa.P
end
section
namespace Go.Proofs.Ytlmlamkbedfmhaa.P
open Go.RowKit Go.Proofs.YtlmlamkbedfmhaaW.PrintWords Go.Proofs.YtlmlamkbedfmhaaW.PrintLast Go.Proofs.YtlmlamkbedfmhaaW.PrintMore
attribute [local go_sem] max2_int min2_int max_two min_two max_three min_three max_four min_four   -- for this text's walks alone
set_option linter.unusedVariables false
set_option linter.unusedSimpArgs false

/-! ### spec_laBack: function 141 -/
def spec_laBack.l0 : Nat → List Int → List Int → Int → Int → Option (List Int)
  | 0, _, _, _, _ => none
  | k + 1, x3, x9, x10, x11 => if x11 < x10 then (if 0 ≤ x11 then (if x11 < (x9.length : Int) then (if 0 ≤ (rd x9 x11) then (if (rd x9 x11) < (x3.length : Int) then (spec_laBack.l0 k (x3.set ((rd x9 x11) : Int).toNat x11) x9 x10 (wrap64 (x11 + 1))) else (none)) else (none)) else (none)) else (none)) else (some x3)
def spec_laBack.f (k : Nat) (l0 : List Int) : Option (List Int) := if 0 ≤ (l0.length : Int) then (if ((l0.length : Int) : Int).toNat ≤ 35184372088832 then (spec_laBack.l0 k (List.replicate ((l0.length : Int) : Int).toNat 0) l0 (l0.length : Int) 0) else (none)) else (none)
set_option maxHeartbeats 8000000 in
set_option maxRecDepth 100000 in
theorem spec_laBack.calls (k : Nat) (A0 : Option Addr) (c0 : Nat) (l0 : List Int) (r : List Int) (w : World) (hr0 : Kd.C (Kd.int .i64) w A0 l0.length l0) (hc0 : l0.length ≤ c0) (h : spec_laBack.f k l0 = some r) :
    Calls Try.prog 141 #[.slice A0 l0.length c0] w fun e w' => ∃ v0_ : Value, e = .returned (v0_) ∧ Kd.R (Kd.int .i64) 3 w' w.heap.size (fun _ => True) v0_ r ∧ Below w.heap.size w w' := by
  have HR0 := Aside0.mk hr0
  have HC0 := Aside0.mk hc0
  clear hr0 hc0
  have HB := Aside0.mk (Below.refl w.heap.size w)
  have H : (if 0 ≤ (l0.length : Int) then (if ((l0.length : Int) : Int).toNat ≤ 35184372088832 then (spec_laBack.l0 k (List.replicate ((l0.length : Int) : Int).toNat 0) l0 (l0.length : Int) 0) else (none)) else (none)) = some r := h
  clear h
  by_cases c2 : 0 ≤ (l0.length : Int)
  · rw [if_pos c2] at H
    have c2b0 := eq_true c2
    have c2b1 : decide (0 ≤ (l0.length : Int)) = true := decide_eq_true c2
    clear c2
    by_cases c3 : ((l0.length : Int) : Int).toNat ≤ 35184372088832
    · rw [if_pos c3] at H
      have c3b0 := eq_true c3
      have c3b1 : decide (((l0.length : Int) : Int).toNat ≤ 35184372088832) = true := decide_eq_true c3
      clear c3
      obtain ⟨y444, hy444⟩ : ∃ y_ : List Int, y_ = (List.replicate ((l0.length : Int) : Int).toNat 0) := ⟨_, rfl⟩
      replace H : (spec_laBack.l0 k y444 l0 (l0.length : Int) 0) = some r := by first | (rw [hy444]; with_reducible exact H) | (have H2_ := (Option.bind_some _ _).symm.trans H; rw [hy444]; with_reducible exact H2_) | (have H2_ := (Option.bind_some _ _).symm.trans H; with_reducible exact H2_) | with_reducible exact H | (rw [hy444]; exact H) | exact H
      have Ny444 := Aside0.mk hy444
      clear hy444
      have H' := Aside0.mk H
      clear H
      go_enter Try.func141, Try.ntmps141
      go_wp2_with (first | ((with_reducible refine gate_dst (N := 8) rfl ?_); refine Kd.R_make (Kd.int .i64) _ 3 rfl (N := 8) rfl 22 _ _ rfl (l0.length : Int) rfl rfl Try.underlying22 (.int .i64 0) 8 info3 rfl (by decide) (by omega) 0 (ok := fun _ => True) (okp := fun _ => True) rfl (fun _ hk => hk) trivial (of_decide_eq_true (by first | (with_reducible assumption) | assumption)) (Nat.le_trans (Nat.mul_le_mul_right _ (of_decide_eq_true (by first | (with_reducible assumption) | assumption) : (l0.length : Int).toNat ≤ 35184372088832)) (by omega)) (Below.refl _ _) (Nat.le_refl _) ?_; intro v445 w4 ho5 hb hg_ hnew_; clear hg_ hnew_; (first | rw [← Ny444.out] at ho5 | (simp only [Int.reduceToNat] at ho5; rw [← Ny444.out] at ho5)); have HO446 := Aside0.mk (Kd.R_lower ho5 (below_size (qD HB))); replace HB := uD HB hb; clear hb ho5))
      go_loopg [11] k (fun kq v11 w' => ∃ (x3_1 : List Int) (x11_1 : Int), v11 = .int .i64 x11_1 ∧ Aside0 (spec_laBack.l0 kq x3_1 l0 (l0.length : Int) x11_1 = some r) ∧ Aside0 (kq ≤ k) ∧ Aside0 (Kd.R (Kd.int .i64) 3 w' w.heap.size (fun _ => True) v445 x3_1) ∧ Aside0 (Below w.heap.size w w'))
      case atStart => exact ⟨(y444), (0), (by first | rfl | (simp; done) | (simp [*]; done) | (simp [bne]; done)), H', ⟨Nat.le_refl _⟩, ⟨qR HO446⟩, ⟨qD HB⟩⟩
      case round =>
        clear H'
        try clear c1
        try clear c2
        try clear c2b0
        try clear c2b1
        try clear p2
        try clear c3
        try clear c3b0
        try clear c3b1
        obtain ⟨x3_1, x11_1, rfl, HA, HK1, HO_3, HB⟩ := hrel
        cases gk with
        | zero => exact absurd HA.out (by simp [spec_laBack.l0])
        | succ k1 =>
          have H := HA.out
          clear HA
          simp only [spec_laBack.l0] at H
          by_cases c6 : x11_1 < (l0.length : Int)
          · rw [if_pos c6] at H
            have c6b0 : decide (x11_1 < (l0.length : Int)) = true := decide_eq_true c6
            clear c6
            by_cases c7 : 0 ≤ x11_1
            · rw [if_pos c7] at H
              have c7b0 : decide (0 ≤ x11_1) = true := decide_eq_true c7
              clear c7
              by_cases c8 : x11_1 < (l0.length : Int)
              · rw [if_pos c8] at H
                have c8b0 : decide (x11_1 < (l0.length : Int)) = true := decide_eq_true c8
                clear c8
                by_cases c9 : 0 ≤ (rd l0 x11_1)
                · rw [if_pos c9] at H
                  have c9b0 : decide (0 ≤ (rd l0 x11_1)) = true := decide_eq_true c9
                  clear c9
                  by_cases c10 : (rd l0 x11_1) < (x3_1.length : Int)
                  · rw [if_pos c10] at H
                    have c10b0 : decide ((rd l0 x11_1) < (x3_1.length : Int)) = true := decide_eq_true c10
                    clear c10
                    obtain ⟨y448, hy448⟩ : ∃ y_ : List Int, y_ = (x3_1.set ((rd l0 x11_1) : Int).toNat x11_1) := ⟨_, rfl⟩
                    replace H : (spec_laBack.l0 k1 y448 l0 (l0.length : Int) (wrap64 (x11_1 + 1))) = some r := by first | (rw [hy448]; with_reducible exact H) | (have H2_ := (Option.bind_some _ _).symm.trans H; rw [hy448]; with_reducible exact H2_) | (have H2_ := (Option.bind_some _ _).symm.trans H; with_reducible exact H2_) | with_reducible exact H | (rw [hy448]; exact H) | exact H
                    have Ny448 := Aside0.mk hy448
                    clear hy448
                    have H' := Aside0.mk H
                    clear H
                    have p447 : 0 ≤ (x11_1 : Int) := of_decide_eq_true (by first | (with_reducible assumption) | assumption)
                    have q447 : x11_1 < (l0.length : Int) := of_decide_eq_true (by first | (with_reducible assumption) | assumption)
                    obtain ⟨ad447, e447, hx447_0⟩ := Kd.at_int HR0.out x11_1 p447 q447
                    cases e447
                    replace hx447_0 := (HB.out.cell (World.block_lt_of_cell? w _ hx447_0)).trans hx447_0
                    replace p447 := eq_true p447
                    replace q447 := eq_true q447
                    have p11 : 0 ≤ ((rd l0 x11_1) : Int) := of_decide_eq_true (by first | (with_reducible assumption) | assumption)
                    have q11 : ((rd l0 x11_1) : Int) < ((x3_1.length : Int) : Int) := of_decide_eq_true (by first | (with_reducible assumption) | assumption)
                    obtain ⟨go11, co11, eo11, gb11, gl11, cl11, HG11⟩ := Kd.R_form HO_3.out (by omega)
                    (first | cases eo11 | (injection eo11 with ea_ en_ ec_; (first | subst ea_ | (injection ea_ with ea_; subst ea_)); subst ec_; clear en_))
                    have GB11 := Aside0.mk gb11
                    have GG11 := Aside0.mk HG11
                    clear gb11 gl11 HG11
                    obtain ⟨hx11_0, hf11_0⟩ := Kd.R_celln 0 HO_3.out ((rd l0 x11_1) : Int) p11 q11
                    replace p11 := eq_true p11
                    replace q11 := eq_true q11
                    have HP12 := Kd.R_putg HO_3.out ((rd l0 x11_1) : Int) x11_1
                    go_wp2_with (first | ((with_reducible refine gate_store (t := 3) (p := 19) rfl ?_); refine store_event (t := 3) (p := 19) (v := ?vo_w13) (w1 := (wr.setCell ⟨go11, ((rd l0 x11_1) : Int).toNat, none⟩ (.int .i64 x11_1))) ?hg ?ho ?hn ?hr ?_; (case ho => rfl); (case hg => rfl); (case hn => rfl); (case hr => first | (go_simp; done) | (go_simp; rfl)); intro w13 hw; have hg : wr.grownBy w13 (some go11) := (by rw [hw]; exact HP12.2); have hp_ : Kd.R (Kd.int .i64) 3 w13 w.heap.size (fun _ => True) (.slice (some ⟨go11, 0, none⟩) x3_1.length co11) y448 := (by rw [hw, Ny448.out]; exact HP12.1); clear HP12; have n0_ := Aside0.mk (hp_); have n1_ := Aside0.mk ((by rw [hw]; exact below_set (HB.out) GB11.out : Below w.heap.size w w13)); clear HO_3; clear HB; have HO_3 := n0_; have HB := n1_; clear n0_ n1_; clear hg hw hp_))
                    go_roundg k1
                    case measure => have := HK1.out; omega
                    case rel => exact ⟨(y448), (wrap64 (x11_1 + 1)), (by first | rfl | (simp; done) | (simp [*]; done) | (simp [bne]; done)), H', ⟨by have := HK1.out; omega⟩, ⟨qR HO_3⟩, ⟨qD HB⟩⟩
                  · rw [if_neg c10] at H
                    exact absurd H (by simp)
                · rw [if_neg c9] at H
                  exact absurd H (by simp)
              · rw [if_neg c8] at H
                exact absurd H (by simp)
            · rw [if_neg c7] at H
              exact absurd H (by simp)
          · rw [if_neg c6] at H
            have c6b0 : decide (x11_1 < (l0.length : Int)) = false := decide_eq_false c6
            clear c6
            obtain rfl := Option.some.inj H
            go_wp2
            go_ret
            exact ⟨_, by first | rfl | (simp [errW_none, errW_some] <;> rfl) | (simp [*, errW_none, errW_some] <;> rfl), qR HO_3, qD HB⟩
    · rw [if_neg c3] at H
      exact absurd H (by simp)
  · rw [if_neg c2] at H
    exact absurd H (by simp)

end Go.Proofs.Ytlmlamkbedfmhaa.P
end
section
namespace Go.Proofs.Ytlmlamkbedfmhaa.P
open Go.RowKit Go.Proofs.YtlmlamkbedfmhaaW.PrintWords Go.Proofs.YtlmlamkbedfmhaaW.PrintLast Go.Proofs.YtlmlamkbedfmhaaW.PrintMore
attribute [local go_sem] max2_int min2_int max_two min_two max_three min_three max_four min_four   -- for this text's walks alone
set_option linter.unusedVariables false
set_option linter.unusedSimpArgs false

/-! ### spec_LastMoves: function 65 -/
def spec_LastMoves.l0 : Nat → List Int → List Int → Int → Int → List Int → Option (List Int × Bool)
  | 0, _, _, _, _, _ => none
  | k + 1, x4, x5, x6, x450000, x450001 => if x6 < (wrap64 (x450000 - 1)) then (if 0 ≤ x6 then (if x6 < (x4.length : Int) then (if 0 ≤ (wrap64 (x6 + 1)) then (if (wrap64 (x6 + 1)) < (x4.length : Int) then (if (rd x4 x6) < (rd x4 (wrap64 (x6 + 1))) then (if x5.length < 17592186044416 then (spec_LastMoves.l0 k x4 (x5 ++ [x6]) (wrap64 (x6 + 1)) x450000 x450001) else (none)) else (spec_LastMoves.l0 k x4 x5 (wrap64 (x6 + 1)) x450000 x450001)) else (none)) else (none)) else (none)) else (none)) else (some (x5, true))
def spec_LastMoves.f (k : Nat) (a0_0 : Int) (l0_1 : List Int) : Option (List Int × Bool) := (spec_gaLasting.f k a0_0 l0_1).bind fun t450 => (if t450 = true then ((spec_laResult.f k a0_0 l0_1).bind fun t451 => ((spec_laBack.f k t451).bind fun t454 => (spec_LastMoves.l0 k t454 ([] : List Int) 0 a0_0 l0_1))) else (some (([] : List Int), false)))
set_option maxHeartbeats 8000000 in
set_option maxRecDepth 100000 in
theorem spec_LastMoves.calls (k : Nat) (a0_0 : Int) (A0_1 : Option Addr) (c0_1 : Nat) (l0_1 : List Int) (r1 : List Int) (r2 : Bool) (w : World) (hr0_1 : Kd.C (Kd.int .i64) w A0_1 l0_1.length l0_1) (hc0_1 : l0_1.length ≤ c0_1) (h : spec_LastMoves.f k a0_0 l0_1 = some (r1, r2)) :
    Calls Try.prog 65 #[.agg #[.int .i64 a0_0, .slice A0_1 l0_1.length c0_1]] w fun e w' => ∃ v0_ : Value, e = .returned (.tuple #[v0_, .bool r2]) ∧ Kd.R (Kd.int .i64) 3 w' w.heap.size (fun _ => True) v0_ r1 ∧ Below w.heap.size w w' := by
  have hu26 := Try.underlying26
  have HR0_1 := Aside0.mk hr0_1
  have HC0_1 := Aside0.mk hc0_1
  clear hr0_1 hc0_1
  have HB := Aside0.mk (Below.refl w.heap.size w)
  have H : ((spec_gaLasting.f k a0_0 l0_1).bind fun t450 => (if t450 = true then ((spec_laResult.f k a0_0 l0_1).bind fun t451 => ((spec_laBack.f k t451).bind fun t454 => (spec_LastMoves.l0 k t454 ([] : List Int) 0 a0_0 l0_1))) else (some (([] : List Int), false)))) = some (r1, r2) := h
  clear h
  replace H := Option.bind_eq_some_iff.mp H
  obtain ⟨t450, A20, H⟩ := H
  replace H : (if t450 = true then ((spec_laResult.f k a0_0 l0_1).bind fun t451 => ((spec_laBack.f k t451).bind fun t454 => (spec_LastMoves.l0 k t454 ([] : List Int) 0 a0_0 l0_1))) else (some (([] : List Int), false))) = some (r1, r2) := H
  have A2 := Aside0.mk A20
  clear A20
  by_cases c3 : t450 = true
  · subst c3
    have H1 : ((spec_laResult.f k a0_0 l0_1).bind fun t451 => ((spec_laBack.f k t451).bind fun t454 => (spec_LastMoves.l0 k t454 ([] : List Int) 0 a0_0 l0_1))) = some (r1, r2) := by rw [if_pos rfl] at H; exact H
    clear H
    have H := H1
    clear H1
    replace H := Option.bind_eq_some_iff.mp H
    obtain ⟨t451, A40, H⟩ := H
    replace H : ((spec_laBack.f k t451).bind fun t454 => (spec_LastMoves.l0 k t454 ([] : List Int) 0 a0_0 l0_1)) = some (r1, r2) := H
    have A4 := Aside0.mk A40
    clear A40
    replace H := Option.bind_eq_some_iff.mp H
    obtain ⟨t454, A50, H⟩ := H
    replace H : (spec_LastMoves.l0 k t454 ([] : List Int) 0 a0_0 l0_1) = some (r1, r2) := H
    have A5 := Aside0.mk A50
    clear A50
    have H' := Aside0.mk H
    clear H
    go_enter Try.func65, Try.ntmps65
    go_wp2_with (first | ((with_reducible refine gate_dst (N := 1) rfl ?_); refine bx 1 #[.int .i64 a0_0, .slice A0_1 l0_1.length c0_1] 26 ?_; intro gb449 hg w6 hbox hb; have BK449 := Aside0.mk (hbox); have GW449 := gE hg HB; have GE449 := gE hg HB; replace HB := uD HB hb; clear hb hbox hg; have hcz7_0 := cl BK449 0; have hcz7_1 := cl BK449 1; have hfz7_0 := blk_frozen BK449.out 0; have hfz7_1 := blk_frozen BK449.out 1) | (go_at_call 140; (with_reducible refine (spec_gaLasting.calls k a0_0 _ _ l0_1 true _ ?side1 ?side2 A2.out).mono ?_); (case side1 => exact qC (Kd.C_below HR0_1.out HB.out)); (case side2 => exact HC0_1.out); rintro e w8 ⟨rfl, hb⟩; replace BK449 := uB BK449 hb; replace HB := uD HB hb; (try clear hb); (try clear hb2); (try clear hk); (try clear hi); have hcz9_0 := cl BK449 0; have hcz9_1 := cl BK449 1; have hfz9_0 := blk_frozen BK449.out 0; have hfz9_1 := blk_frozen BK449.out 1) | (go_at_call 142; (with_reducible refine (spec_laResult.calls k a0_0 _ _ l0_1 t451 _ ?side1 ?side2 A4.out).mono ?_); (case side1 => exact qC (Kd.C_below HR0_1.out HB.out)); (case side2 => exact HC0_1.out); rintro e w10 ⟨v452, rfl, ho0, hb⟩; have HO453 := Aside0.mk (Kd.R_lower ho0 (below_size (qD HB))); replace BK449 := uB BK449 hb; replace HB := uD HB hb; (try clear hb); (try clear hb2); (try clear hk); (try clear hi); (try clear ho0); obtain ⟨Ao11, co11, eo11⟩ := Kd.R_slice HO453.out; subst eo11) | (go_at_call 141; (with_reducible refine (spec_laBack.calls k _ _ t451 t454 _ ?side1 ?side2 A5.out).mono ?_); (case side1 => exact qC (Kd.R_reads' HO453.out).2.2); (case side2 => exact (Kd.R_reads' HO453.out).2.1); rintro e w12 ⟨v455, rfl, ho0, hb⟩; have HO456 := Aside0.mk (Kd.R_lower (Kd.R_new' ho0 (Kd.R_lt (qR HO453))) (below_size (qD HB))); replace HO453 := eR HO453 ho0 hb; replace BK449 := uB BK449 hb; replace HB := uD HB hb; (try clear hb); (try clear hb2); (try clear hk); (try clear hi); (try clear ho0)))
    repeat (go_quiet (first | ((with_reducible refine gate_dst (N := 1) rfl ?_); refine bx 1 #[.int .i64 a0_0, .slice A0_1 l0_1.length c0_1] 26 ?_; intro gb449 hg w6 hbox hb; have BK449 := Aside0.mk (hbox); have GW449 := gE hg HB; have GE449 := gE hg HB; replace HB := uD HB hb; clear hb hbox hg; have hcz7_0 := cl BK449 0; have hcz7_1 := cl BK449 1; have hfz7_0 := blk_frozen BK449.out 0; have hfz7_1 := blk_frozen BK449.out 1) | (go_at_call 140; (with_reducible refine (spec_gaLasting.calls k a0_0 _ _ l0_1 true _ ?side1 ?side2 A2.out).mono ?_); (case side1 => exact qC (Kd.C_below HR0_1.out HB.out)); (case side2 => exact HC0_1.out); rintro e w8 ⟨rfl, hb⟩; replace BK449 := uB BK449 hb; replace HB := uD HB hb; (try clear hb); (try clear hb2); (try clear hk); (try clear hi); have hcz9_0 := cl BK449 0; have hcz9_1 := cl BK449 1; have hfz9_0 := blk_frozen BK449.out 0; have hfz9_1 := blk_frozen BK449.out 1) | (go_at_call 142; (with_reducible refine (spec_laResult.calls k a0_0 _ _ l0_1 t451 _ ?side1 ?side2 A4.out).mono ?_); (case side1 => exact qC (Kd.C_below HR0_1.out HB.out)); (case side2 => exact HC0_1.out); rintro e w10 ⟨v452, rfl, ho0, hb⟩; have HO453 := Aside0.mk (Kd.R_lower ho0 (below_size (qD HB))); replace BK449 := uB BK449 hb; replace HB := uD HB hb; (try clear hb); (try clear hb2); (try clear hk); (try clear hi); (try clear ho0); obtain ⟨Ao11, co11, eo11⟩ := Kd.R_slice HO453.out; subst eo11) | (go_at_call 141; (with_reducible refine (spec_laBack.calls k _ _ t451 t454 _ ?side1 ?side2 A5.out).mono ?_); (case side1 => exact qC (Kd.R_reads' HO453.out).2.2); (case side2 => exact (Kd.R_reads' HO453.out).2.1); rintro e w12 ⟨v455, rfl, ho0, hb⟩; have HO456 := Aside0.mk (Kd.R_lower (Kd.R_new' ho0 (Kd.R_lt (qR HO453))) (below_size (qD HB))); replace HO453 := eR HO453 ho0 hb; replace BK449 := uB BK449 hb; replace HB := uD HB hb; (try clear hb); (try clear hb2); (try clear hk); (try clear hi); (try clear ho0))); try go_wp2_with (first | ((with_reducible refine gate_dst (N := 1) rfl ?_); refine bx 1 #[.int .i64 a0_0, .slice A0_1 l0_1.length c0_1] 26 ?_; intro gb449 hg w6 hbox hb; have BK449 := Aside0.mk (hbox); have GW449 := gE hg HB; have GE449 := gE hg HB; replace HB := uD HB hb; clear hb hbox hg; have hcz7_0 := cl BK449 0; have hcz7_1 := cl BK449 1; have hfz7_0 := blk_frozen BK449.out 0; have hfz7_1 := blk_frozen BK449.out 1) | (go_at_call 140; (with_reducible refine (spec_gaLasting.calls k a0_0 _ _ l0_1 true _ ?side1 ?side2 A2.out).mono ?_); (case side1 => exact qC (Kd.C_below HR0_1.out HB.out)); (case side2 => exact HC0_1.out); rintro e w8 ⟨rfl, hb⟩; replace BK449 := uB BK449 hb; replace HB := uD HB hb; (try clear hb); (try clear hb2); (try clear hk); (try clear hi); have hcz9_0 := cl BK449 0; have hcz9_1 := cl BK449 1; have hfz9_0 := blk_frozen BK449.out 0; have hfz9_1 := blk_frozen BK449.out 1) | (go_at_call 142; (with_reducible refine (spec_laResult.calls k a0_0 _ _ l0_1 t451 _ ?side1 ?side2 A4.out).mono ?_); (case side1 => exact qC (Kd.C_below HR0_1.out HB.out)); (case side2 => exact HC0_1.out); rintro e w10 ⟨v452, rfl, ho0, hb⟩; have HO453 := Aside0.mk (Kd.R_lower ho0 (below_size (qD HB))); replace BK449 := uB BK449 hb; replace HB := uD HB hb; (try clear hb); (try clear hb2); (try clear hk); (try clear hi); (try clear ho0); obtain ⟨Ao11, co11, eo11⟩ := Kd.R_slice HO453.out; subst eo11) | (go_at_call 141; (with_reducible refine (spec_laBack.calls k _ _ t451 t454 _ ?side1 ?side2 A5.out).mono ?_); (case side1 => exact qC (Kd.R_reads' HO453.out).2.2); (case side2 => exact (Kd.R_reads' HO453.out).2.1); rintro e w12 ⟨v455, rfl, ho0, hb⟩; have HO456 := Aside0.mk (Kd.R_lower (Kd.R_new' ho0 (Kd.R_lt (qR HO453))) (below_size (qD HB))); replace HO453 := eR HO453 ho0 hb; replace BK449 := uB BK449 hb; replace HB := uD HB hb; (try clear hb); (try clear hb2); (try clear hk); (try clear hi); (try clear ho0))))
    go_loopg [5, 6] k (fun kq v5 v6 w' => ∃ (x5_1 : List Int) (x6_1 : Int), v6 = .int .i64 x6_1 ∧ Aside0 (spec_LastMoves.l0 kq t454 x5_1 x6_1 a0_0 l0_1 = some (r1, r2)) ∧ Aside0 (kq ≤ k) ∧ Aside0 (Kd.R (Kd.int .i64) 3 w' w.heap.size (fun k_ => some k_ ≠ (v5 : Value).ownBlock) v455 t454) ∧ Aside0 (Kd.R (Kd.int .i64) 3 w' w.heap.size (fun k_ => some k_ ≠ (v455 : Value).ownBlock) v5 x5_1) ∧ Aside0 (w'.heap[gb449]? = some (.cells #[.int .i64 a0_0, (.slice A0_1 l0_1.length c0_1)] 26 (0, 0))) ∧ Aside0 (Below w.heap.size w w'))
    case atStart => exact ⟨(([] : List Int)), (0), (by first | rfl | (simp; done) | (simp [*]; done) | (simp [bne]; done)), H', ⟨Nat.le_refl _⟩, ⟨mR HO456 (fun _ hk => (by simp [Value.ownBlock]))⟩, ⟨by first | exact Kd.R_nil _ _ _ _ _ | exact Kd.N_nil _ _ _ _ _ | exact Kd.V_nil _ _ _ _ _ | exact Kd.Q_nil _ _ _ _ _ | exact Kd.S_nil _ _ _ _ _⟩, ⟨qB BK449⟩, ⟨qD HB⟩⟩
    case round =>
      clear H'
      try clear p2
      try clear c3
      try clear c6
      try clear hcz7_0
      try clear hcz7_1
      try clear hcz9_0
      try clear hcz9_1
      try clear hfz7_0
      try clear hfz7_1
      try clear hfz9_0
      try clear hfz9_1
      obtain ⟨x5_1, x6_1, rfl, HA, HK1, HO_4, HO_5, BK449, HB⟩ := hrel
      cases gk with
      | zero => exact absurd HA.out (by simp [spec_LastMoves.l0])
      | succ k1 =>
        have H := HA.out
        clear HA
        simp only [spec_LastMoves.l0] at H
        by_cases c13 : x6_1 < (wrap64 (a0_0 - 1))
        · rw [if_pos c13] at H
          have c13b0 : decide (x6_1 < (wrap64 (a0_0 - 1))) = true := decide_eq_true c13
          clear c13
          by_cases c14 : 0 ≤ x6_1
          · rw [if_pos c14] at H
            have c14b0 : decide (0 ≤ x6_1) = true := decide_eq_true c14
            clear c14
            by_cases c15 : x6_1 < (t454.length : Int)
            · rw [if_pos c15] at H
              have c15b0 : decide (x6_1 < (t454.length : Int)) = true := decide_eq_true c15
              clear c15
              obtain ⟨ji16, hji16⟩ : ∃ j_ : Int, (wrap64 (x6_1 + 1)) = j_ := ⟨_, rfl⟩
              replace H : (if 0 ≤ (ji16) then (if (ji16) < (t454.length : Int) then (if (rd t454 x6_1) < (rd t454 (ji16)) then (if x5_1.length < 17592186044416 then (spec_LastMoves.l0 k1 t454 (x5_1 ++ [x6_1]) ji16 a0_0 l0_1) else (none)) else (spec_LastMoves.l0 k1 t454 x5_1 ji16 a0_0 l0_1)) else (none)) else (none)) = some (r1, r2) := by first | (rw [hji16] at H; exact H) | (simp only [hji16] at H ⊢; exact H)
              have hji16w : (IntKind.i64.wrap (x6_1 + 1)) = ji16 := (i64_w _).trans hji16
              by_cases c17 : 0 ≤ (ji16)
              · rw [if_pos c17] at H
                have c17b0 : decide (0 ≤ (ji16)) = true := decide_eq_true c17
                clear c17
                by_cases c18 : (ji16) < (t454.length : Int)
                · rw [if_pos c18] at H
                  have c18b0 : decide ((ji16) < (t454.length : Int)) = true := decide_eq_true c18
                  clear c18
                  by_cases c19 : (rd t454 x6_1) < (rd t454 (ji16))
                  · rw [if_pos c19] at H
                    have c19b0 : decide ((rd t454 x6_1) < (rd t454 (ji16))) = true := decide_eq_true c19
                    clear c19
                    by_cases c20 : x5_1.length < 17592186044416
                    · rw [if_pos c20] at H
                      have LMc20 := Aside0.mk c20
                      clear c20
                      obtain ⟨y459, hy459⟩ : ∃ y_ : List Int, y_ = (x5_1 ++ [x6_1]) := ⟨_, rfl⟩
                      replace H : (spec_LastMoves.l0 k1 t454 y459 ji16 a0_0 l0_1) = some (r1, r2) := by first | (rw [hy459]; with_reducible exact H) | (have H2_ := (Option.bind_some _ _).symm.trans H; rw [hy459]; with_reducible exact H2_) | (have H2_ := (Option.bind_some _ _).symm.trans H; with_reducible exact H2_) | with_reducible exact H | (rw [hy459]; exact H) | exact H
                      have Ny459 := Aside0.mk hy459
                      clear hy459
                      have H' := Aside0.mk H
                      clear H
                      have hcz21_0 := cl BK449 0
                      have hcz21_1 := cl BK449 1
                      have hfz21_0 := blk_frozen BK449.out 0
                      have hfz21_1 := blk_frozen BK449.out 1
                      obtain ⟨Ao22, co22, eo22⟩ := Kd.R_slice HO_4.out
                      subst eo22
                      have p457 : 0 ≤ (x6_1 : Int) := of_decide_eq_true (by first | (with_reducible assumption) | assumption)
                      have q457 : x6_1 < (t454.length : Int) := of_decide_eq_true (by first | (with_reducible assumption) | assumption)
                      obtain ⟨ad457, e457, hx457_0⟩ := Kd.at_int (Kd.R_reads' HO_4.out).2.2 x6_1 p457 q457
                      cases e457
                      replace p457 := eq_true p457
                      replace q457 := eq_true q457
                      have p458 : 0 ≤ ((ji16) : Int) := of_decide_eq_true (by first | (with_reducible assumption) | assumption)
                      have q458 : (ji16) < (t454.length : Int) := of_decide_eq_true (by first | (with_reducible assumption) | assumption)
                      obtain ⟨ad458, e458, hx458_0⟩ := Kd.at_int (Kd.R_reads' HO_4.out).2.2 (ji16) p458 q458
                      obtain rfl : ad457 = ad458 := (by injection e458)
                      replace p458 := eq_true p458
                      replace q458 := eq_true q458
                      go_wp2_with (first | ((with_reducible refine gate_builtin (b := .append) (xs := #[.tmp 33, .tmp 35]) rfl ?_); at_builtin; refine Kd.R_append (Kd.int .i64) (w0 := w) w.heap.size rfl (.tmp 33) (.tmp 35) 22 3 (.int .i64 0) 8 rfl Try.underlying22 info3 rfl (by decide) (by omega) u5 x5_1 x6_1 [.int .i64 x6_1] (fun k_ => some k_ ≠ (.slice (some ad457) t454.length co22 : Value).ownBlock) (fun _ => False) rfl rfl ?aP (fun _ hk => hk.elim) ?aF ?aO ?aB ?aS ?aL ?_; (case aP => exact rfl); (case aB => exact (qD HB)); (case aF => exact (fun k_ hk => Kd.fresh' (Kd.R_lt (qR HO_4)) k_ hk)); (case aO => exact (qR HO_5)); (case aS => exact (below_size (qD HB))); (case aL => have := LMc20.out; omega); intro v460 w23 ho hb hg hat; rw [← Ny459.out] at ho; replace HO_4 := Aside0.mk (Kd.R_after (ok := (fun _ => True)) (mR HO_4 (fun _ hk => ⟨trivial, hk⟩)) hg hat); replace BK449 := Aside0.mk (blk_grown (g := gb449) (o := .cells #[.int .i64 a0_0, .slice A0_1 l0_1.length c0_1] 26 (0, 0)) (qB BK449) hg (Kd.R_ne HO_5.out BK449.out (by decide))); replace HB := Aside0.mk (hb); have HO461 := Aside0.mk (ho); clear HO_5; clear ho hb hg hat))
                      repeat (go_quiet (first | ((with_reducible refine gate_builtin (b := .append) (xs := #[.tmp 33, .tmp 35]) rfl ?_); at_builtin; refine Kd.R_append (Kd.int .i64) (w0 := w) w.heap.size rfl (.tmp 33) (.tmp 35) 22 3 (.int .i64 0) 8 rfl Try.underlying22 info3 rfl (by decide) (by omega) u5 x5_1 x6_1 [.int .i64 x6_1] (fun k_ => some k_ ≠ (.slice (some ad457) t454.length co22 : Value).ownBlock) (fun _ => False) rfl rfl ?aP (fun _ hk => hk.elim) ?aF ?aO ?aB ?aS ?aL ?_; (case aP => exact rfl); (case aB => exact (qD HB)); (case aF => exact (fun k_ hk => Kd.fresh' (Kd.R_lt (qR HO_4)) k_ hk)); (case aO => exact (qR HO_5)); (case aS => exact (below_size (qD HB))); (case aL => have := LMc20.out; omega); intro v460 w23 ho hb hg hat; rw [← Ny459.out] at ho; replace HO_4 := Aside0.mk (Kd.R_after (ok := (fun _ => True)) (mR HO_4 (fun _ hk => ⟨trivial, hk⟩)) hg hat); replace BK449 := Aside0.mk (blk_grown (g := gb449) (o := .cells #[.int .i64 a0_0, .slice A0_1 l0_1.length c0_1] 26 (0, 0)) (qB BK449) hg (Kd.R_ne HO_5.out BK449.out (by decide))); replace HB := Aside0.mk (hb); have HO461 := Aside0.mk (ho); clear HO_5; clear ho hb hg hat)); try go_wp2_with (first | ((with_reducible refine gate_builtin (b := .append) (xs := #[.tmp 33, .tmp 35]) rfl ?_); at_builtin; refine Kd.R_append (Kd.int .i64) (w0 := w) w.heap.size rfl (.tmp 33) (.tmp 35) 22 3 (.int .i64 0) 8 rfl Try.underlying22 info3 rfl (by decide) (by omega) u5 x5_1 x6_1 [.int .i64 x6_1] (fun k_ => some k_ ≠ (.slice (some ad457) t454.length co22 : Value).ownBlock) (fun _ => False) rfl rfl ?aP (fun _ hk => hk.elim) ?aF ?aO ?aB ?aS ?aL ?_; (case aP => exact rfl); (case aB => exact (qD HB)); (case aF => exact (fun k_ hk => Kd.fresh' (Kd.R_lt (qR HO_4)) k_ hk)); (case aO => exact (qR HO_5)); (case aS => exact (below_size (qD HB))); (case aL => have := LMc20.out; omega); intro v460 w23 ho hb hg hat; rw [← Ny459.out] at ho; replace HO_4 := Aside0.mk (Kd.R_after (ok := (fun _ => True)) (mR HO_4 (fun _ hk => ⟨trivial, hk⟩)) hg hat); replace BK449 := Aside0.mk (blk_grown (g := gb449) (o := .cells #[.int .i64 a0_0, .slice A0_1 l0_1.length c0_1] 26 (0, 0)) (qB BK449) hg (Kd.R_ne HO_5.out BK449.out (by decide))); replace HB := Aside0.mk (hb); have HO461 := Aside0.mk (ho); clear HO_5; clear ho hb hg hat)))
                      go_roundg k1
                      case measure => have := HK1.out; omega
                      case rel => exact ⟨(y459), (ji16), (by first | rfl | (simp; done) | (simp only [← hji16] <;> (first | rfl | simp)) | (simp [*]; done)), H', ⟨by have := HK1.out; omega⟩, ⟨mR HO_4 (fun _ hk => hk.2)⟩, ⟨qR HO461⟩, ⟨qB BK449⟩, ⟨qD HB⟩⟩
                    · rw [if_neg c20] at H
                      exact absurd H (by simp)
                  · rw [if_neg c19] at H
                    have c19b0 : decide ((rd t454 x6_1) < (rd t454 (ji16))) = false := decide_eq_false c19
                    clear c19
                    have H' := Aside0.mk H
                    clear H
                    have hcz24_0 := cl BK449 0
                    have hcz24_1 := cl BK449 1
                    have hfz24_0 := blk_frozen BK449.out 0
                    have hfz24_1 := blk_frozen BK449.out 1
                    obtain ⟨Ao25, co25, eo25⟩ := Kd.R_slice HO_4.out
                    subst eo25
                    have p457 : 0 ≤ (x6_1 : Int) := of_decide_eq_true (by first | (with_reducible assumption) | assumption)
                    have q457 : x6_1 < (t454.length : Int) := of_decide_eq_true (by first | (with_reducible assumption) | assumption)
                    obtain ⟨ad457, e457, hx457_0⟩ := Kd.at_int (Kd.R_reads' HO_4.out).2.2 x6_1 p457 q457
                    cases e457
                    replace p457 := eq_true p457
                    replace q457 := eq_true q457
                    have p458 : 0 ≤ ((ji16) : Int) := of_decide_eq_true (by first | (with_reducible assumption) | assumption)
                    have q458 : (ji16) < (t454.length : Int) := of_decide_eq_true (by first | (with_reducible assumption) | assumption)
                    obtain ⟨ad458, e458, hx458_0⟩ := Kd.at_int (Kd.R_reads' HO_4.out).2.2 (ji16) p458 q458
                    obtain rfl : ad457 = ad458 := (by injection e458)
                    replace p458 := eq_true p458
                    replace q458 := eq_true q458
                    go_wp2
                    repeat (go_quiet (fail); try go_wp2)
                    go_roundg k1
                    case measure => have := HK1.out; omega
                    case rel => exact ⟨(x5_1), (ji16), (by first | rfl | (simp; done) | (simp only [← hji16] <;> (first | rfl | simp)) | (simp [*]; done)), H', ⟨by have := HK1.out; omega⟩, ⟨qR HO_4⟩, ⟨qR HO_5⟩, ⟨qB BK449⟩, ⟨qD HB⟩⟩
                · rw [if_neg c18] at H
                  exact absurd H (by simp)
              · rw [if_neg c17] at H
                exact absurd H (by simp)
            · rw [if_neg c15] at H
              exact absurd H (by simp)
          · rw [if_neg c14] at H
            exact absurd H (by simp)
        · rw [if_neg c13] at H
          have c13b0 : decide (x6_1 < (wrap64 (a0_0 - 1))) = false := decide_eq_false c13
          clear c13
          simp only [Option.some.injEq, Prod.mk.injEq] at H
          obtain ⟨rfl, rfl⟩ := H
          have hcz26_0 := cl BK449 0
          have hcz26_1 := cl BK449 1
          have hfz26_0 := blk_frozen BK449.out 0
          have hfz26_1 := blk_frozen BK449.out 1
          go_wp2
          repeat (go_quiet (fail); try go_wp2)
          go_ret2
          exact ⟨_, by first | rfl | (simp [errW_none, errW_some] <;> rfl) | (simp [*, errW_none, errW_some] <;> rfl), by (with_reducible repeat (first | apply Kd.R_alloc | apply Kd.R_drewN | apply Kd.R_drew)); exact Kd.R_mono HO_5.out (fun _ hk => trivial), qD HB⟩
  · replace c3 := Bool.eq_false_iff.mpr c3
    subst c3
    have H1 : (some (([] : List Int), false)) = some (r1, r2) := by rw [if_neg (show ¬ (false = true) by decide)] at H; exact H
    clear H
    have H := H1
    clear H1
    simp only [Option.some.injEq, Prod.mk.injEq] at H
    obtain ⟨rfl, rfl⟩ := H
    go_enter Try.func65, Try.ntmps65
    go_wp2_with (first | ((with_reducible refine gate_dst (N := 1) rfl ?_); refine bx 1 #[.int .i64 a0_0, .slice A0_1 l0_1.length c0_1] 26 ?_; intro gb449 hg w27 hbox hb; have BK449 := Aside0.mk (hbox); have GW449 := gE hg HB; have GE449 := gE hg HB; replace HB := uD HB hb; clear hb hbox hg; have hcz28_0 := cl BK449 0; have hcz28_1 := cl BK449 1; have hfz28_0 := blk_frozen BK449.out 0; have hfz28_1 := blk_frozen BK449.out 1) | (go_at_call 140; (with_reducible refine (spec_gaLasting.calls k a0_0 _ _ l0_1 false _ ?side1 ?side2 A2.out).mono ?_); (case side1 => exact qC (Kd.C_below HR0_1.out HB.out)); (case side2 => exact HC0_1.out); rintro e w29 ⟨rfl, hb⟩; replace BK449 := uB BK449 hb; replace HB := uD HB hb; (try clear hb); (try clear hb2); (try clear hk); (try clear hi)))
    repeat (go_quiet (first | ((with_reducible refine gate_dst (N := 1) rfl ?_); refine bx 1 #[.int .i64 a0_0, .slice A0_1 l0_1.length c0_1] 26 ?_; intro gb449 hg w27 hbox hb; have BK449 := Aside0.mk (hbox); have GW449 := gE hg HB; have GE449 := gE hg HB; replace HB := uD HB hb; clear hb hbox hg; have hcz28_0 := cl BK449 0; have hcz28_1 := cl BK449 1; have hfz28_0 := blk_frozen BK449.out 0; have hfz28_1 := blk_frozen BK449.out 1) | (go_at_call 140; (with_reducible refine (spec_gaLasting.calls k a0_0 _ _ l0_1 false _ ?side1 ?side2 A2.out).mono ?_); (case side1 => exact qC (Kd.C_below HR0_1.out HB.out)); (case side2 => exact HC0_1.out); rintro e w29 ⟨rfl, hb⟩; replace BK449 := uB BK449 hb; replace HB := uD HB hb; (try clear hb); (try clear hb2); (try clear hk); (try clear hi))); try go_wp2_with (first | ((with_reducible refine gate_dst (N := 1) rfl ?_); refine bx 1 #[.int .i64 a0_0, .slice A0_1 l0_1.length c0_1] 26 ?_; intro gb449 hg w27 hbox hb; have BK449 := Aside0.mk (hbox); have GW449 := gE hg HB; have GE449 := gE hg HB; replace HB := uD HB hb; clear hb hbox hg; have hcz28_0 := cl BK449 0; have hcz28_1 := cl BK449 1; have hfz28_0 := blk_frozen BK449.out 0; have hfz28_1 := blk_frozen BK449.out 1) | (go_at_call 140; (with_reducible refine (spec_gaLasting.calls k a0_0 _ _ l0_1 false _ ?side1 ?side2 A2.out).mono ?_); (case side1 => exact qC (Kd.C_below HR0_1.out HB.out)); (case side2 => exact HC0_1.out); rintro e w29 ⟨rfl, hb⟩; replace BK449 := uB BK449 hb; replace HB := uD HB hb; (try clear hb); (try clear hb2); (try clear hk); (try clear hi))))
    go_ret2
    exact ⟨_, by first | rfl | (simp [errW_none, errW_some] <;> rfl) | (simp [*, errW_none, errW_some] <;> rfl), by first | exact Kd.R_nil _ _ _ _ _ | exact Kd.N_nil _ _ _ _ _ | exact Kd.V_nil _ _ _ _ _ | exact Kd.Q_nil _ _ _ _ _ | exact Kd.S_nil _ _ _ _ _, qD HB⟩

end Go.Proofs.Ytlmlamkbedfmhaa.P
end
section
namespace Go.Proofs.Ytlmlamkbedfmhaa.P
open Go.RowKit Go.Proofs.YtlmlamkbedfmhaaW.PrintWords Go.Proofs.YtlmlamkbedfmhaaW.PrintLast Go.Proofs.YtlmlamkbedfmhaaW.PrintMore
attribute [local go_sem] max2_int min2_int max_two min_two max_three min_three max_four min_four   -- for this text's walks alone
set_option linter.unusedVariables false
set_option linter.unusedSimpArgs false

/-! ### impl_LastWins: function 66 -/
def impl_LastWins.f (k : Nat) (a0_0 : Int) (l0_1 : List Int) : Option (Bool × Bool) := (impl_isLadder.f a0_0 l0_1).bind fun t463 => (if t463 = true then ((impl_needless.f k a0_0 l0_1).bind fun t464 => (if t464 = 0 then (some (((Int.tmod (wrap64 ((wrap64 (Int.tdiv (wrap64 (a0_0 * (wrap64 (a0_0 - 1)))) 2)) - (l0_1.length : Int))) 2) == 1), true)) else (some (false, false)))) else (some (false, false)))
set_option maxHeartbeats 8000000 in
set_option maxRecDepth 100000 in
theorem impl_LastWins.calls (k : Nat) (a0_0 : Int) (A0_1 : Option Addr) (c0_1 : Nat) (l0_1 : List Int) (r1 : Bool) (r2 : Bool) (w : World) (hr0_1 : Kd.C (Kd.int .i64) w A0_1 l0_1.length l0_1) (hc0_1 : l0_1.length ≤ c0_1) (h : impl_LastWins.f k a0_0 l0_1 = some (r1, r2)) :
    Calls Try.prog 66 #[.agg #[.int .i64 a0_0, .slice A0_1 l0_1.length c0_1]] w fun e w' => e = .returned (.tuple #[.bool r1, .bool r2]) ∧ Below w.heap.size w w' := by
  have hu26 := Try.underlying26
  have HR0_1 := Aside0.mk hr0_1
  have HC0_1 := Aside0.mk hc0_1
  clear hr0_1 hc0_1
  have HB := Aside0.mk (Below.refl w.heap.size w)
  have H : ((impl_isLadder.f a0_0 l0_1).bind fun t463 => (if t463 = true then ((impl_needless.f k a0_0 l0_1).bind fun t464 => (if t464 = 0 then (some (((Int.tmod (wrap64 ((wrap64 (Int.tdiv (wrap64 (a0_0 * (wrap64 (a0_0 - 1)))) 2)) - (l0_1.length : Int))) 2) == 1), true)) else (some (false, false)))) else (some (false, false)))) = some (r1, r2) := h
  clear h
  replace H := Option.bind_eq_some_iff.mp H
  obtain ⟨t463, A20, H⟩ := H
  replace H : (if t463 = true then ((impl_needless.f k a0_0 l0_1).bind fun t464 => (if t464 = 0 then (some (((Int.tmod (wrap64 ((wrap64 (Int.tdiv (wrap64 (a0_0 * (wrap64 (a0_0 - 1)))) 2)) - (l0_1.length : Int))) 2) == 1), true)) else (some (false, false)))) else (some (false, false))) = some (r1, r2) := H
  have A2 := Aside0.mk A20
  clear A20
  by_cases c3 : t463 = true
  · subst c3
    have H1 : ((impl_needless.f k a0_0 l0_1).bind fun t464 => (if t464 = 0 then (some (((Int.tmod (wrap64 ((wrap64 (Int.tdiv (wrap64 (a0_0 * (wrap64 (a0_0 - 1)))) 2)) - (l0_1.length : Int))) 2) == 1), true)) else (some (false, false)))) = some (r1, r2) := by rw [if_pos rfl] at H; exact H
    clear H
    have H := H1
    clear H1
    replace H := Option.bind_eq_some_iff.mp H
    obtain ⟨t464, A40, H⟩ := H
    replace H : (if t464 = 0 then (some (((Int.tmod (wrap64 ((wrap64 (Int.tdiv (wrap64 (a0_0 * (wrap64 (a0_0 - 1)))) 2)) - (l0_1.length : Int))) 2) == 1), true)) else (some (false, false))) = some (r1, r2) := H
    have A4 := Aside0.mk A40
    clear A40
    by_cases c5 : t464 = 0
    · rw [if_pos c5] at H
      have c5b0 : (t464 == 0) = true := beq_iff_eq.mpr c5
      have c5b1 : (t464 != 0) = false := bne_eq_false_iff_eq.mpr c5
      clear c5
      simp only [Option.some.injEq, Prod.mk.injEq] at H
      obtain ⟨rfl, rfl⟩ := H
      go_enter Try.func66, Try.ntmps66
      go_wp2_with (first | ((with_reducible refine gate_dst (N := 1) rfl ?_); refine bx 1 #[.int .i64 a0_0, .slice A0_1 l0_1.length c0_1] 26 ?_; intro gb462 hg w6 hbox hb; have BK462 := Aside0.mk (hbox); have GW462 := gE hg HB; have GE462 := gE hg HB; replace HB := uD HB hb; clear hb hbox hg; have hcz7_0 := cl BK462 0; have hcz7_1 := cl BK462 1; have hfz7_0 := blk_frozen BK462.out 0; have hfz7_1 := blk_frozen BK462.out 1) | ((with_reducible refine gate_callee (f := 93) rfl ?_); refine gs (some 5) Try.func93 #[.agg #[.int .i64 a0_0, .slice A0_1 l0_1.length c0_1]] ?_; (with_reducible refine (impl_isLadder.calls a0_0 _ _ l0_1 true _ ?side1 ?side2 A2.out).mono ?_); (case side1 => exact qC (Kd.C_below HR0_1.out HB.out)); (case side2 => exact HC0_1.out); rintro e w8 ⟨rfl, hb⟩; refine ⟨_, rfl, ?_⟩; replace BK462 := uB BK462 hb; replace HB := uD HB hb; (try clear hb); (try clear hb2); (try clear hk); (try clear hi); have hcz9_0 := cl BK462 0; have hcz9_1 := cl BK462 1; have hfz9_0 := blk_frozen BK462.out 0; have hfz9_1 := blk_frozen BK462.out 1) | (go_at_call 139; (with_reducible refine (impl_needless.calls k a0_0 _ _ l0_1 t464 _ ?side1 ?side2 A4.out).mono ?_); (case side1 => exact qC (Kd.C_below HR0_1.out HB.out)); (case side2 => exact HC0_1.out); rintro e w10 ⟨rfl, hb⟩; replace BK462 := uB BK462 hb; replace HB := uD HB hb; (try clear hb); (try clear hb2); (try clear hk); (try clear hi); have hcz11_0 := cl BK462 0; have hcz11_1 := cl BK462 1; have hfz11_0 := blk_frozen BK462.out 0; have hfz11_1 := blk_frozen BK462.out 1))
      go_ret2
      exact ⟨by first | rfl | (simp [errW_none, errW_some] <;> rfl) | (simp [*, errW_none, errW_some] <;> rfl), qD HB⟩
    · rw [if_neg c5] at H
      have c5b0 : (t464 == 0) = false := beq_eq_false_iff_ne.mpr c5
      have c5b1 : (t464 != 0) = true := bne_iff_ne.mpr c5
      simp only [Option.some.injEq, Prod.mk.injEq] at H
      obtain ⟨rfl, rfl⟩ := H
      go_enter Try.func66, Try.ntmps66
      go_wp2_with (first | ((with_reducible refine gate_dst (N := 1) rfl ?_); refine bx 1 #[.int .i64 a0_0, .slice A0_1 l0_1.length c0_1] 26 ?_; intro gb462 hg w12 hbox hb; have BK462 := Aside0.mk (hbox); have GW462 := gE hg HB; have GE462 := gE hg HB; replace HB := uD HB hb; clear hb hbox hg; have hcz13_0 := cl BK462 0; have hcz13_1 := cl BK462 1; have hfz13_0 := blk_frozen BK462.out 0; have hfz13_1 := blk_frozen BK462.out 1) | ((with_reducible refine gate_callee (f := 93) rfl ?_); refine gs (some 5) Try.func93 #[.agg #[.int .i64 a0_0, .slice A0_1 l0_1.length c0_1]] ?_; (with_reducible refine (impl_isLadder.calls a0_0 _ _ l0_1 true _ ?side1 ?side2 A2.out).mono ?_); (case side1 => exact qC (Kd.C_below HR0_1.out HB.out)); (case side2 => exact HC0_1.out); rintro e w14 ⟨rfl, hb⟩; refine ⟨_, rfl, ?_⟩; replace BK462 := uB BK462 hb; replace HB := uD HB hb; (try clear hb); (try clear hb2); (try clear hk); (try clear hi); have hcz15_0 := cl BK462 0; have hcz15_1 := cl BK462 1; have hfz15_0 := blk_frozen BK462.out 0; have hfz15_1 := blk_frozen BK462.out 1) | (go_at_call 139; (with_reducible refine (impl_needless.calls k a0_0 _ _ l0_1 t464 _ ?side1 ?side2 A4.out).mono ?_); (case side1 => exact qC (Kd.C_below HR0_1.out HB.out)); (case side2 => exact HC0_1.out); rintro e w16 ⟨rfl, hb⟩; replace BK462 := uB BK462 hb; replace HB := uD HB hb; (try clear hb); (try clear hb2); (try clear hk); (try clear hi)))
      go_ret2
      exact ⟨by first | rfl | (simp [errW_none, errW_some] <;> rfl) | (simp [*, errW_none, errW_some] <;> rfl), qD HB⟩
  · replace c3 := Bool.eq_false_iff.mpr c3
    subst c3
    have H1 : (some (false, false)) = some (r1, r2) := by rw [if_neg (show ¬ (false = true) by decide)] at H; exact H
    clear H
    have H := H1
    clear H1
    simp only [Option.some.injEq, Prod.mk.injEq] at H
    obtain ⟨rfl, rfl⟩ := H
    go_enter Try.func66, Try.ntmps66
    go_wp2_with (first | ((with_reducible refine gate_dst (N := 1) rfl ?_); refine bx 1 #[.int .i64 a0_0, .slice A0_1 l0_1.length c0_1] 26 ?_; intro gb462 hg w17 hbox hb; have BK462 := Aside0.mk (hbox); have GW462 := gE hg HB; have GE462 := gE hg HB; replace HB := uD HB hb; clear hb hbox hg; have hcz18_0 := cl BK462 0; have hcz18_1 := cl BK462 1; have hfz18_0 := blk_frozen BK462.out 0; have hfz18_1 := blk_frozen BK462.out 1) | ((with_reducible refine gate_callee (f := 93) rfl ?_); refine gs (some 5) Try.func93 #[.agg #[.int .i64 a0_0, .slice A0_1 l0_1.length c0_1]] ?_; (with_reducible refine (impl_isLadder.calls a0_0 _ _ l0_1 false _ ?side1 ?side2 A2.out).mono ?_); (case side1 => exact qC (Kd.C_below HR0_1.out HB.out)); (case side2 => exact HC0_1.out); rintro e w19 ⟨rfl, hb⟩; refine ⟨_, rfl, ?_⟩; replace BK462 := uB BK462 hb; replace HB := uD HB hb; (try clear hb); (try clear hb2); (try clear hk); (try clear hi)))
    go_ret2
    exact ⟨by first | rfl | (simp [errW_none, errW_some] <;> rfl) | (simp [*, errW_none, errW_some] <;> rfl), qD HB⟩

end Go.Proofs.Ytlmlamkbedfmhaa.P
end
section
namespace Go.Proofs.Ytlmlamkbedfmhaa.P
open Go.RowKit Go.Proofs.YtlmlamkbedfmhaaW.PrintWords Go.Proofs.YtlmlamkbedfmhaaW.PrintLast Go.Proofs.YtlmlamkbedfmhaaW.PrintMore
attribute [local go_sem] max2_int min2_int max_two min_two max_three min_three max_four min_four   -- for this text's walks alone
set_option linter.unusedVariables false
set_option linter.unusedSimpArgs false

/-! ### spec_LastWins: function 67 -/
def spec_LastWins.f (k : Nat) (a0_0 : Int) (l0_1 : List Int) : Option (Bool × Bool) := (spec_gaLasting.f k a0_0 l0_1).bind fun t466 => (if t466 = true then (some (((Int.tmod (wrap64 ((wrap64 (Int.tdiv (wrap64 (a0_0 * (wrap64 (a0_0 - 1)))) 2)) - (l0_1.length : Int))) 2) == 1), true)) else (some (false, false)))
set_option maxHeartbeats 8000000 in
set_option maxRecDepth 100000 in
theorem spec_LastWins.calls (k : Nat) (a0_0 : Int) (A0_1 : Option Addr) (c0_1 : Nat) (l0_1 : List Int) (r1 : Bool) (r2 : Bool) (w : World) (hr0_1 : Kd.C (Kd.int .i64) w A0_1 l0_1.length l0_1) (hc0_1 : l0_1.length ≤ c0_1) (h : spec_LastWins.f k a0_0 l0_1 = some (r1, r2)) :
    Calls Try.prog 67 #[.agg #[.int .i64 a0_0, .slice A0_1 l0_1.length c0_1]] w fun e w' => e = .returned (.tuple #[.bool r1, .bool r2]) ∧ Below w.heap.size w w' := by
  have hu26 := Try.underlying26
  have HR0_1 := Aside0.mk hr0_1
  have HC0_1 := Aside0.mk hc0_1
  clear hr0_1 hc0_1
  have HB := Aside0.mk (Below.refl w.heap.size w)
  have H : ((spec_gaLasting.f k a0_0 l0_1).bind fun t466 => (if t466 = true then (some (((Int.tmod (wrap64 ((wrap64 (Int.tdiv (wrap64 (a0_0 * (wrap64 (a0_0 - 1)))) 2)) - (l0_1.length : Int))) 2) == 1), true)) else (some (false, false)))) = some (r1, r2) := h
  clear h
  replace H := Option.bind_eq_some_iff.mp H
  obtain ⟨t466, A20, H⟩ := H
  replace H : (if t466 = true then (some (((Int.tmod (wrap64 ((wrap64 (Int.tdiv (wrap64 (a0_0 * (wrap64 (a0_0 - 1)))) 2)) - (l0_1.length : Int))) 2) == 1), true)) else (some (false, false))) = some (r1, r2) := H
  have A2 := Aside0.mk A20
  clear A20
  by_cases c3 : t466 = true
  · subst c3
    have H1 : (some (((Int.tmod (wrap64 ((wrap64 (Int.tdiv (wrap64 (a0_0 * (wrap64 (a0_0 - 1)))) 2)) - (l0_1.length : Int))) 2) == 1), true)) = some (r1, r2) := by rw [if_pos rfl] at H; exact H
    clear H
    have H := H1
    clear H1
    simp only [Option.some.injEq, Prod.mk.injEq] at H
    obtain ⟨rfl, rfl⟩ := H
    go_enter Try.func67, Try.ntmps67
    go_wp2_with (first | ((with_reducible refine gate_dst (N := 1) rfl ?_); refine bx 1 #[.int .i64 a0_0, .slice A0_1 l0_1.length c0_1] 26 ?_; intro gb465 hg w4 hbox hb; have BK465 := Aside0.mk (hbox); have GW465 := gE hg HB; have GE465 := gE hg HB; replace HB := uD HB hb; clear hb hbox hg; have hcz5_0 := cl BK465 0; have hcz5_1 := cl BK465 1; have hfz5_0 := blk_frozen BK465.out 0; have hfz5_1 := blk_frozen BK465.out 1) | ((with_reducible refine gate_callee (f := 140) rfl ?_); refine gs (some 5) Try.func140 #[.agg #[.int .i64 a0_0, .slice A0_1 l0_1.length c0_1]] ?_; (with_reducible refine (spec_gaLasting.calls k a0_0 _ _ l0_1 true _ ?side1 ?side2 A2.out).mono ?_); (case side1 => exact qC (Kd.C_below HR0_1.out HB.out)); (case side2 => exact HC0_1.out); rintro e w6 ⟨rfl, hb⟩; refine ⟨_, rfl, ?_⟩; replace BK465 := uB BK465 hb; replace HB := uD HB hb; (try clear hb); (try clear hb2); (try clear hk); (try clear hi); have hcz7_0 := cl BK465 0; have hcz7_1 := cl BK465 1; have hfz7_0 := blk_frozen BK465.out 0; have hfz7_1 := blk_frozen BK465.out 1))
    go_ret2
    exact ⟨by first | rfl | (simp [errW_none, errW_some] <;> rfl) | (simp [*, errW_none, errW_some] <;> rfl), qD HB⟩
  · replace c3 := Bool.eq_false_iff.mpr c3
    subst c3
    have H1 : (some (false, false)) = some (r1, r2) := by rw [if_neg (show ¬ (false = true) by decide)] at H; exact H
    clear H
    have H := H1
    clear H1
    simp only [Option.some.injEq, Prod.mk.injEq] at H
    obtain ⟨rfl, rfl⟩ := H
    go_enter Try.func67, Try.ntmps67
    go_wp2_with (first | ((with_reducible refine gate_dst (N := 1) rfl ?_); refine bx 1 #[.int .i64 a0_0, .slice A0_1 l0_1.length c0_1] 26 ?_; intro gb465 hg w8 hbox hb; have BK465 := Aside0.mk (hbox); have GW465 := gE hg HB; have GE465 := gE hg HB; replace HB := uD HB hb; clear hb hbox hg; have hcz9_0 := cl BK465 0; have hcz9_1 := cl BK465 1; have hfz9_0 := blk_frozen BK465.out 0; have hfz9_1 := blk_frozen BK465.out 1) | ((with_reducible refine gate_callee (f := 140) rfl ?_); refine gs (some 5) Try.func140 #[.agg #[.int .i64 a0_0, .slice A0_1 l0_1.length c0_1]] ?_; (with_reducible refine (spec_gaLasting.calls k a0_0 _ _ l0_1 false _ ?side1 ?side2 A2.out).mono ?_); (case side1 => exact qC (Kd.C_below HR0_1.out HB.out)); (case side2 => exact HC0_1.out); rintro e w10 ⟨rfl, hb⟩; refine ⟨_, rfl, ?_⟩; replace BK465 := uB BK465 hb; replace HB := uD HB hb; (try clear hb); (try clear hb2); (try clear hk); (try clear hi)))
    go_ret2
    exact ⟨by first | rfl | (simp [errW_none, errW_some] <;> rfl) | (simp [*, errW_none, errW_some] <;> rfl), qD HB⟩

end Go.Proofs.Ytlmlamkbedfmhaa.P
end
section
namespace Go.Proofs.Ytlmlamkbedfmhaa.P
open Go.RowKit Go.Proofs.YtlmlamkbedfmhaaW.PrintWords Go.Proofs.YtlmlamkbedfmhaaW.PrintLast Go.Proofs.YtlmlamkbedfmhaaW.PrintMore
attribute [local go_sem] max2_int min2_int max_two min_two max_three min_three max_four min_four   -- for this text's walks alone
set_option linter.unusedVariables false
set_option linter.unusedSimpArgs false

/-! ### impl_IsLeast: function 68 -/
def impl_IsLeast.f (k : Nat) (a0_0 : Int) (l0_1 : List Int) : Option (Bool × Bool) := (impl_isLadder.f a0_0 l0_1).bind fun t468 => (if t468 = true then ((impl_needless.f k a0_0 l0_1).bind fun t469 => (some ((t469 == 0), true))) else (some (false, false)))
set_option maxHeartbeats 8000000 in
set_option maxRecDepth 100000 in
theorem impl_IsLeast.calls (k : Nat) (a0_0 : Int) (A0_1 : Option Addr) (c0_1 : Nat) (l0_1 : List Int) (r1 : Bool) (r2 : Bool) (w : World) (hr0_1 : Kd.C (Kd.int .i64) w A0_1 l0_1.length l0_1) (hc0_1 : l0_1.length ≤ c0_1) (h : impl_IsLeast.f k a0_0 l0_1 = some (r1, r2)) :
    Calls Try.prog 68 #[.agg #[.int .i64 a0_0, .slice A0_1 l0_1.length c0_1]] w fun e w' => e = .returned (.tuple #[.bool r1, .bool r2]) ∧ Below w.heap.size w w' := by
  have hu26 := Try.underlying26
  have HR0_1 := Aside0.mk hr0_1
  have HC0_1 := Aside0.mk hc0_1
  clear hr0_1 hc0_1
  have HB := Aside0.mk (Below.refl w.heap.size w)
  have H : ((impl_isLadder.f a0_0 l0_1).bind fun t468 => (if t468 = true then ((impl_needless.f k a0_0 l0_1).bind fun t469 => (some ((t469 == 0), true))) else (some (false, false)))) = some (r1, r2) := h
  clear h
  replace H := Option.bind_eq_some_iff.mp H
  obtain ⟨t468, A20, H⟩ := H
  replace H : (if t468 = true then ((impl_needless.f k a0_0 l0_1).bind fun t469 => (some ((t469 == 0), true))) else (some (false, false))) = some (r1, r2) := H
  have A2 := Aside0.mk A20
  clear A20
  by_cases c3 : t468 = true
  · subst c3
    have H1 : ((impl_needless.f k a0_0 l0_1).bind fun t469 => (some ((t469 == 0), true))) = some (r1, r2) := by rw [if_pos rfl] at H; exact H
    clear H
    have H := H1
    clear H1
    replace H := Option.bind_eq_some_iff.mp H
    obtain ⟨t469, A40, H⟩ := H
    replace H : (some ((t469 == 0), true)) = some (r1, r2) := H
    have A4 := Aside0.mk A40
    clear A40
    simp only [Option.some.injEq, Prod.mk.injEq] at H
    obtain ⟨rfl, rfl⟩ := H
    go_enter Try.func68, Try.ntmps68
    go_wp2_with (first | ((with_reducible refine gate_dst (N := 1) rfl ?_); refine bx 1 #[.int .i64 a0_0, .slice A0_1 l0_1.length c0_1] 26 ?_; intro gb467 hg w5 hbox hb; have BK467 := Aside0.mk (hbox); have GW467 := gE hg HB; have GE467 := gE hg HB; replace HB := uD HB hb; clear hb hbox hg; have hcz6_0 := cl BK467 0; have hcz6_1 := cl BK467 1; have hfz6_0 := blk_frozen BK467.out 0; have hfz6_1 := blk_frozen BK467.out 1) | ((with_reducible refine gate_callee (f := 93) rfl ?_); refine gs (some 5) Try.func93 #[.agg #[.int .i64 a0_0, .slice A0_1 l0_1.length c0_1]] ?_; (with_reducible refine (impl_isLadder.calls a0_0 _ _ l0_1 true _ ?side1 ?side2 A2.out).mono ?_); (case side1 => exact qC (Kd.C_below HR0_1.out HB.out)); (case side2 => exact HC0_1.out); rintro e w7 ⟨rfl, hb⟩; refine ⟨_, rfl, ?_⟩; replace BK467 := uB BK467 hb; replace HB := uD HB hb; (try clear hb); (try clear hb2); (try clear hk); (try clear hi); have hcz8_0 := cl BK467 0; have hcz8_1 := cl BK467 1; have hfz8_0 := blk_frozen BK467.out 0; have hfz8_1 := blk_frozen BK467.out 1) | ((with_reducible refine gate_callee (f := 139) rfl ?_); refine gs (some 8) Try.func139 #[.agg #[.int .i64 a0_0, .slice A0_1 l0_1.length c0_1]] ?_; (with_reducible refine (impl_needless.calls k a0_0 _ _ l0_1 t469 _ ?side1 ?side2 A4.out).mono ?_); (case side1 => exact qC (Kd.C_below HR0_1.out HB.out)); (case side2 => exact HC0_1.out); rintro e w9 ⟨rfl, hb⟩; refine ⟨_, rfl, ?_⟩; replace BK467 := uB BK467 hb; replace HB := uD HB hb; (try clear hb); (try clear hb2); (try clear hk); (try clear hi)))
    go_ret2
    exact ⟨by first | rfl | (simp [errW_none, errW_some] <;> rfl) | (simp [*, errW_none, errW_some] <;> rfl), qD HB⟩
  · replace c3 := Bool.eq_false_iff.mpr c3
    subst c3
    have H1 : (some (false, false)) = some (r1, r2) := by rw [if_neg (show ¬ (false = true) by decide)] at H; exact H
    clear H
    have H := H1
    clear H1
    simp only [Option.some.injEq, Prod.mk.injEq] at H
    obtain ⟨rfl, rfl⟩ := H
    go_enter Try.func68, Try.ntmps68
    go_wp2_with (first | ((with_reducible refine gate_dst (N := 1) rfl ?_); refine bx 1 #[.int .i64 a0_0, .slice A0_1 l0_1.length c0_1] 26 ?_; intro gb467 hg w10 hbox hb; have BK467 := Aside0.mk (hbox); have GW467 := gE hg HB; have GE467 := gE hg HB; replace HB := uD HB hb; clear hb hbox hg; have hcz11_0 := cl BK467 0; have hcz11_1 := cl BK467 1; have hfz11_0 := blk_frozen BK467.out 0; have hfz11_1 := blk_frozen BK467.out 1) | ((with_reducible refine gate_callee (f := 93) rfl ?_); refine gs (some 5) Try.func93 #[.agg #[.int .i64 a0_0, .slice A0_1 l0_1.length c0_1]] ?_; (with_reducible refine (impl_isLadder.calls a0_0 _ _ l0_1 false _ ?side1 ?side2 A2.out).mono ?_); (case side1 => exact qC (Kd.C_below HR0_1.out HB.out)); (case side2 => exact HC0_1.out); rintro e w12 ⟨rfl, hb⟩; refine ⟨_, rfl, ?_⟩; replace BK467 := uB BK467 hb; replace HB := uD HB hb; (try clear hb); (try clear hb2); (try clear hk); (try clear hi)))
    go_ret2
    exact ⟨by first | rfl | (simp [errW_none, errW_some] <;> rfl) | (simp [*, errW_none, errW_some] <;> rfl), qD HB⟩

end Go.Proofs.Ytlmlamkbedfmhaa.P
end
section
namespace Go.Proofs.Ytlmlamkbedfmhaa.P
open Go.RowKit Go.Proofs.YtlmlamkbedfmhaaW.PrintWords Go.Proofs.YtlmlamkbedfmhaaW.PrintLast Go.Proofs.YtlmlamkbedfmhaaW.PrintMore
attribute [local go_sem] max2_int min2_int max_two min_two max_three min_three max_four min_four   -- for this text's walks alone
set_option linter.unusedVariables false
set_option linter.unusedSimpArgs false

/-! ### impl_checked: function 95 -/
def impl_checked.f (a0_0 : Int) (l0_1 : List Int) : Option (Int × List Int × Bool) := (impl_isLadder.f a0_0 l0_1).bind fun t472 => (if t472 = true then (some (a0_0, l0_1, true)) else (some (0, ([] : List Int), false)))
set_option maxHeartbeats 8000000 in
set_option maxRecDepth 100000 in
theorem impl_checked.calls (a0_0 : Int) (P0_1_ : Nat → Prop) (u9000_ : Value) (l0_1 : List Int) (r1 : Int) (r2 : List Int) (r3 : Bool) (w0 w : World) (hB : Below w0.heap.size w0 w) (ho0_1 : Kd.R (Kd.int .i64) 3 w w0.heap.size P0_1_ u9000_ l0_1) (h : impl_checked.f a0_0 l0_1 = some (r1, r2, r3)) :
    Calls Try.prog 95 #[.agg #[.int .i64 a0_0, u9000_]] w fun e w' => ∃ v1_ : Value, e = .returned (.tuple #[.agg #[.int .i64 r1, v1_], .bool r3]) ∧ Kd.R (Kd.int .i64) 3 w' w0.heap.size (fun k_ => (P0_1_ k_ ∨ w.heap.size ≤ k_)) v1_ r2 ∧ Below w0.heap.size w0 w' ∧ Kept w w' (fun k_ => P0_1_ k_) := by
  have hu26 := Try.underlying26
  have HO0_1 := Aside0.mk (show Kd.R (Kd.int .i64) 3 w w0.heap.size (fun k_ => (P0_1_ k_ ∨ w.heap.size ≤ k_)) u9000_ l0_1 from Kd.R_mono ho0_1 (fun k_ hk => (.inl hk)))
  have HK := Aside0.mk (Kept.refl w (fun k_ => P0_1_ k_))
  have HW0 := Aside0.mk hB.size
  have HB := Aside0.mk hB
  clear hB
  have H : ((impl_isLadder.f a0_0 l0_1).bind fun t472 => (if t472 = true then (some (a0_0, l0_1, true)) else (some (0, ([] : List Int), false)))) = some (r1, r2, r3) := h
  clear h
  replace H := Option.bind_eq_some_iff.mp H
  obtain ⟨t472, A20, H⟩ := H
  replace H : (if t472 = true then (some (a0_0, l0_1, true)) else (some (0, ([] : List Int), false))) = some (r1, r2, r3) := H
  have A2 := Aside0.mk A20
  clear A20
  by_cases c3 : t472 = true
  · subst c3
    have H1 : (some (a0_0, l0_1, true)) = some (r1, r2, r3) := by rw [if_pos rfl] at H; exact H
    clear H
    have H := H1
    clear H1
    simp only [Option.some.injEq, Prod.mk.injEq] at H
    obtain ⟨rfl, rfl, rfl⟩ := H
    obtain ⟨Ao4, co4, eo4⟩ := Kd.R_slice HO0_1.out
    subst eo4
    go_enter Try.func95, Try.ntmps95
    go_wp2_with (first | ((with_reducible refine gate_dst (N := 1) rfl ?_); refine bx 1 #[.int .i64 a0_0, .slice Ao4 l0_1.length co4] 26 ?_; intro gb470 hg w5 hbox hb; replace HO0_1 := uR HO0_1 hb; have BK470 := Aside0.mk (hbox); have GW470 := gK hg HK; replace HK := uK HK hb; have GE470 := gE hg HB; replace HB := uD HB hb; clear hb hbox hg) | ((with_reducible refine gate_dst (N := 2) rfl ?_); refine bx 2 #[.int .i64 0, .slice none 0 0] 26 ?_; intro gb471 hg w6 hbox hb; replace HO0_1 := uR HO0_1 hb; have BK471 := Aside0.mk (hbox); have GW471 := gK hg HK; replace HK := uK HK hb; have GE471 := gE hg HB; replace HB := uD HB hb; have NB470_471 := nB hg BK470; have NB471_470 := nC hg BK470; replace BK470 := uB BK470 hb; clear hb hbox hg; have hnb7 := NB470_471.out; have hnc7 := NB471_470.out; have hcz8_0 := cl BK470 0; have hcz8_1 := cl BK470 1; have hfz8_0 := blk_frozen BK470.out 0; have hfz8_1 := blk_frozen BK470.out 1) | ((with_reducible refine gate_callee (f := 93) rfl ?_); refine gs (some 5) Try.func93 #[.agg #[.int .i64 a0_0, .slice Ao4 l0_1.length co4]] ?_; (with_reducible refine (impl_isLadder.calls a0_0 _ _ l0_1 true _ ?side1 ?side2 A2.out).mono ?_); (case side1 => exact qC (Kd.R_reads' HO0_1.out).2.2); (case side2 => exact (Kd.R_reads' HO0_1.out).2.1); rintro e w9 ⟨rfl, hb⟩; refine ⟨_, rfl, ?_⟩; replace HO0_1 := uR HO0_1 hb; replace BK470 := uB BK470 hb; replace BK471 := uB BK471 hb; replace HK := uK HK hb; replace HB := uD HB hb; (try clear hb); (try clear hb2); (try clear hk); (try clear hi); have hcz10_0 := cl BK470 0; have hcz10_1 := cl BK470 1; have hfz10_0 := blk_frozen BK470.out 0; have hfz10_1 := blk_frozen BK470.out 1; have hcz11_0 := cl BK471 0; have hcz11_1 := cl BK471 1; have hfz11_0 := blk_frozen BK471.out 0; have hfz11_1 := blk_frozen BK471.out 1))
    refine bodyPost_ret (results_ct rfl _ _ gb471 26 #[.int .i64 a0_0, .slice Ao4 l0_1.length co4] (0, 0) _ rfl (by (with_reducible repeat (first | refine blk_drewN ?_ _ | refine blk_drew ?_ | refine blk_alloc ?_ _)); refine blk_put (cs := #[.int .i64 a0_0, .slice none 0 0]) ?_ 1 _ rfl; (with_reducible repeat (first | refine blk_drewN ?_ _ | refine blk_drew ?_ | refine blk_alloc ?_ _)); refine blk_put (cs := #[.int .i64 0, .slice none 0 0]) ?_ 0 _ rfl; (with_reducible repeat (first | refine blk_drewN ?_ _ | refine blk_drew ?_ | refine blk_alloc ?_ _)); exact BK471.out) Try.underlying26 rfl (by kernel_rfl)) rfl ?_
    exact ⟨_, by first | rfl | (simp [errW_none, errW_some] <;> rfl) | (simp [*, errW_none, errW_some] <;> rfl), by (with_reducible repeat (first | apply Kd.R_alloc | apply Kd.R_drewN | apply Kd.R_drew)); exact Kd.R_mono (Kd.R_far (p := ⟨gb471, 1, none⟩) (Kd.R_far (p := ⟨gb471, 0, none⟩) (Kd.R_types HO0_1.out BK471.out (by decide)) (fun _ hk => hk.2) (.int .i64 a0_0)) (fun _ hk => hk.2) (.slice Ao4 l0_1.length co4)) (fun _ hk => hk.1), qD HB, qK HK⟩
  · replace c3 := Bool.eq_false_iff.mpr c3
    subst c3
    have H1 : (some (0, ([] : List Int), false)) = some (r1, r2, r3) := by rw [if_neg (show ¬ (false = true) by decide)] at H; exact H
    clear H
    have H := H1
    clear H1
    simp only [Option.some.injEq, Prod.mk.injEq] at H
    obtain ⟨rfl, rfl, rfl⟩ := H
    obtain ⟨Ao12, co12, eo12⟩ := Kd.R_slice HO0_1.out
    subst eo12
    go_enter Try.func95, Try.ntmps95
    go_wp2_with (first | ((with_reducible refine gate_dst (N := 1) rfl ?_); refine bx 1 #[.int .i64 a0_0, .slice Ao12 l0_1.length co12] 26 ?_; intro gb470 hg w13 hbox hb; replace HO0_1 := uR HO0_1 hb; have BK470 := Aside0.mk (hbox); have GW470 := gK hg HK; replace HK := uK HK hb; have GE470 := gE hg HB; replace HB := uD HB hb; clear hb hbox hg) | ((with_reducible refine gate_dst (N := 2) rfl ?_); refine bx 2 #[.int .i64 0, .slice none 0 0] 26 ?_; intro gb471 hg w14 hbox hb; replace HO0_1 := uR HO0_1 hb; have BK471 := Aside0.mk (hbox); have GW471 := gK hg HK; replace HK := uK HK hb; have GE471 := gE hg HB; replace HB := uD HB hb; have NB470_471 := nB hg BK470; have NB471_470 := nC hg BK470; replace BK470 := uB BK470 hb; clear hb hbox hg; have hnb15 := NB470_471.out; have hnc15 := NB471_470.out; have hcz16_0 := cl BK470 0; have hcz16_1 := cl BK470 1; have hfz16_0 := blk_frozen BK470.out 0; have hfz16_1 := blk_frozen BK470.out 1) | ((with_reducible refine gate_callee (f := 93) rfl ?_); refine gs (some 5) Try.func93 #[.agg #[.int .i64 a0_0, .slice Ao12 l0_1.length co12]] ?_; (with_reducible refine (impl_isLadder.calls a0_0 _ _ l0_1 false _ ?side1 ?side2 A2.out).mono ?_); (case side1 => exact qC (Kd.R_reads' HO0_1.out).2.2); (case side2 => exact (Kd.R_reads' HO0_1.out).2.1); rintro e w17 ⟨rfl, hb⟩; refine ⟨_, rfl, ?_⟩; replace HO0_1 := uR HO0_1 hb; replace BK470 := uB BK470 hb; replace BK471 := uB BK471 hb; replace HK := uK HK hb; replace HB := uD HB hb; (try clear hb); (try clear hb2); (try clear hk); (try clear hi); have hcz18_0 := cl BK471 0; have hcz18_1 := cl BK471 1; have hfz18_0 := blk_frozen BK471.out 0; have hfz18_1 := blk_frozen BK471.out 1))
    refine bodyPost_ret (results_ct rfl _ _ gb471 26 #[.int .i64 0, .slice none 0 0] (0, 0) _ rfl (by (with_reducible repeat (first | refine blk_drewN ?_ _ | refine blk_drew ?_ | refine blk_alloc ?_ _)); refine blk_put (cs := #[.int .i64 0, .slice none 0 0]) ?_ 1 _ rfl; (with_reducible repeat (first | refine blk_drewN ?_ _ | refine blk_drew ?_ | refine blk_alloc ?_ _)); refine blk_put (cs := #[.int .i64 0, .slice none 0 0]) ?_ 0 _ rfl; (with_reducible repeat (first | refine blk_drewN ?_ _ | refine blk_drew ?_ | refine blk_alloc ?_ _)); exact BK471.out) Try.underlying26 rfl (by kernel_rfl)) rfl ?_
    exact ⟨_, by first | rfl | (simp [errW_none, errW_some] <;> rfl) | (simp [*, errW_none, errW_some] <;> rfl), by first | exact Kd.R_nil _ _ _ _ _ | exact Kd.N_nil _ _ _ _ _ | exact Kd.V_nil _ _ _ _ _ | exact Kd.Q_nil _ _ _ _ _ | exact Kd.S_nil _ _ _ _ _, qD HB, qK HK⟩

end Go.Proofs.Ytlmlamkbedfmhaa.P
end
section
set_option linter.unusedVariables false
set_option linter.unusedSimpArgs false
namespace Go.Proofs.Ytlmlamkbedfmhaa.P
open Go.RowKit Go.Proofs.YtlmlamkbedfmhaaW.PrintWords Go.Proofs.YtlmlamkbedfmhaaW.PrintLast Go.Proofs.YtlmlamkbedfmhaaW.PrintMore

theorem Ev.yes {α : Type} {c : Prop} [Decidable c] {g f : Nat → Option α} {r : α} (h : c) (e : Ev g r) : Ev (fun k => if c then g k else f k) r := by
  simp only [if_pos h]; exact e
theorem Ev.no {α : Type} {c : Prop} [Decidable c] {g f : Nat → Option α} {r : α} (h : ¬ c) (e : Ev f r) : Ev (fun k => if c then g k else f k) r := by
  simp only [if_neg h]; exact e
theorem Ev.known {α β : Type} {o : Option α} {f : Nat → α → Option β} {a : α} {r : β} (h : o = some a) (e : Ev (fun n => f n a) r) : Ev (fun n => o.bind (f n)) r := by
  subst h; exact e
theorem Ev.ret {α : Type} {r r' : α} (h : r = r') : Ev (fun _ => some r) r' := by subst h; exact Ev.now r
theorem Ev.eq {α : Type} {g : Nat → Option α} {r r' : α} (h : Ev g r) (e : r = r') : Ev g r' := e ▸ h
theorem w64 {x : Int} (h : -9223372036854775808 ≤ x) (h' : x ≤ 9223372036854775807) : wrap64 x = x := by unfold wrap64; omega
theorem w64i {i : Nat} {n : Nat} (h : i < n) (hn : n ≤ 9223372036854775807) : wrap64 ((i : Int) + 1) = ((i + 1 : Nat) : Int) := by unfold wrap64; omega
theorem rd_nat {xs : List Int} {j : Nat} (h : j < xs.length) : rd xs (j : Int) = xs[j] := by unfold rd; simp [h]
theorem rd_nat' {xs : List Int} {j : Nat} : rd xs (j : Int) = xs.getD j 0 := by unfold rd; simp
theorem take_snoc {α : Type} {l : List α} {i : Nat} (h : i < l.length) : l.take i ++ [l[i]] = l.take (i + 1) := by
  rw [List.take_add_one, List.getElem?_eq_getElem h, Option.toList_some]
end Go.Proofs.Ytlmlamkbedfmhaa.P
end
section
namespace Go.Proofs.Ytlmlamkbedfmhaa.P
open Go.RowKit Go.Proofs.YtlmlamkbedfmhaaW.PrintWords Go.Proofs.YtlmlamkbedfmhaaW.PrintLast Go.Proofs.YtlmlamkbedfmhaaW.PrintMore
attribute [local go_sem] max2_int min2_int max_two min_two max_three min_three max_four min_four   -- for this text's walks alone
set_option linter.unusedVariables false
set_option linter.unusedSimpArgs false

/-! ### laws_szIntS: function 89 -/
def laws_szIntS.f (l0 : List Int) (a1 : Int) : Option (Int) := if (wrap64 (a1 - (l0.length : Int))) < 0 then (some (-1)) else (some (wrap64 (a1 - (l0.length : Int))))
set_option maxHeartbeats 8000000 in
set_option maxRecDepth 100000 in
theorem laws_szIntS.calls (A0 : Option Addr) (c0 : Nat) (l0 : List Int) (a1 : Int) (r : Int) (w : World) (hr0 : Kd.C (Kd.int .i64) w A0 l0.length l0) (hc0 : l0.length ≤ c0) (h : laws_szIntS.f l0 a1 = some r) :
    Calls Try.prog 89 #[.slice A0 l0.length c0, .int .i64 a1] w fun e w' => e = .returned (.int .i64 r) ∧ Drawn0 w w' := by
  have HR0 := Aside0.mk hr0
  have HC0 := Aside0.mk hc0
  clear hr0 hc0
  have H : (if (wrap64 (a1 - (l0.length : Int))) < 0 then (some (-1)) else (some (wrap64 (a1 - (l0.length : Int))))) = some r := h
  clear h
  by_cases c3 : (wrap64 (a1 - (l0.length : Int))) < 0
  · rw [if_pos c3] at H
    have c3b0 : decide ((wrap64 (a1 - (l0.length : Int))) < 0) = true := decide_eq_true c3
    clear c3
    obtain rfl := Option.some.inj H
    go_enter Try.func89, Try.ntmps89
    go_wp2
    go_ret
    exact ⟨by first | rfl | (simp; done) | (simp [*]; done), by repeat (first | exact Drawn0.refl _ | apply Drawn0.step)⟩
  · rw [if_neg c3] at H
    have c3b0 : decide ((wrap64 (a1 - (l0.length : Int))) < 0) = false := decide_eq_false c3
    clear c3
    obtain rfl := Option.some.inj H
    go_enter Try.func89, Try.ntmps89
    go_wp2
    go_ret
    exact ⟨by first | rfl | (simp; done) | (simp [*]; done), by repeat (first | exact Drawn0.refl _ | apply Drawn0.step)⟩

end Go.Proofs.Ytlmlamkbedfmhaa.P
end
section
namespace Go.Proofs.Ytlmlamkbedfmhaa.P
open Go.RowKit Go.Proofs.YtlmlamkbedfmhaaW.PrintWords Go.Proofs.YtlmlamkbedfmhaaW.PrintLast Go.Proofs.YtlmlamkbedfmhaaW.PrintMore
attribute [local go_sem] max2_int min2_int max_two min_two max_three min_three max_four min_four   -- for this text's walks alone
set_option linter.unusedVariables false
set_option linter.unusedSimpArgs false

/-! ### laws_toIntS: function 23 -/
def laws_toIntS.l0 : Nat → List Int → List Int → Int → Option (List Int)
  | 0, _, _, _ => none
  | k + 1, x0, x3, x4 => if x4 < (x0.length : Int) then (if 0 ≤ x4 then (if x4 < (x3.length : Int) then (laws_toIntS.l0 k x0 (x3.set (x4 : Int).toNat (rd x0 x4)) (wrap64 (x4 + 1))) else (none)) else (none)) else (some x3)
def laws_toIntS.f (k : Nat) (l0 : List Int) : Option (List Int) := if 0 ≤ (l0.length : Int) then (if ((l0.length : Int) : Int).toNat ≤ 35184372088832 then (laws_toIntS.l0 k l0 (List.replicate ((l0.length : Int) : Int).toNat 0) 0) else (none)) else (none)
set_option maxHeartbeats 8000000 in
set_option maxRecDepth 100000 in
theorem laws_toIntS.calls (k : Nat) (A0 : Option Addr) (c0 : Nat) (l0 : List Int) (r : List Int) (w : World) (hr0 : Kd.C (Kd.int .i64) w A0 l0.length l0) (hc0 : l0.length ≤ c0) (h : laws_toIntS.f k l0 = some r) :
    Calls Try.prog 23 #[.slice A0 l0.length c0] w fun e w' => ∃ v0_ : Value, e = .returned (v0_) ∧ Kd.R (Kd.int .i64) 3 w' w.heap.size (fun _ => True) v0_ r ∧ Below w.heap.size w w' := by
  have HR0 := Aside0.mk hr0
  have HC0 := Aside0.mk hc0
  clear hr0 hc0
  have HB := Aside0.mk (Below.refl w.heap.size w)
  have H : (if 0 ≤ (l0.length : Int) then (if ((l0.length : Int) : Int).toNat ≤ 35184372088832 then (laws_toIntS.l0 k l0 (List.replicate ((l0.length : Int) : Int).toNat 0) 0) else (none)) else (none)) = some r := h
  clear h
  by_cases c2 : 0 ≤ (l0.length : Int)
  · rw [if_pos c2] at H
    have c2b0 := eq_true c2
    have c2b1 : decide (0 ≤ (l0.length : Int)) = true := decide_eq_true c2
    clear c2
    by_cases c3 : ((l0.length : Int) : Int).toNat ≤ 35184372088832
    · rw [if_pos c3] at H
      have c3b0 := eq_true c3
      have c3b1 : decide (((l0.length : Int) : Int).toNat ≤ 35184372088832) = true := decide_eq_true c3
      clear c3
      obtain ⟨y673, hy673⟩ : ∃ y_ : List Int, y_ = (List.replicate ((l0.length : Int) : Int).toNat 0) := ⟨_, rfl⟩
      replace H : (laws_toIntS.l0 k l0 y673 0) = some r := by first | (rw [hy673]; with_reducible exact H) | (have H2_ := (Option.bind_some _ _).symm.trans H; rw [hy673]; with_reducible exact H2_) | (have H2_ := (Option.bind_some _ _).symm.trans H; with_reducible exact H2_) | with_reducible exact H | (rw [hy673]; exact H) | exact H
      have Ny673 := Aside0.mk hy673
      clear hy673
      have H' := Aside0.mk H
      clear H
      go_enter Try.func23, Try.ntmps23
      go_wp2_with (first | ((with_reducible refine gate_dst (N := 7) rfl ?_); refine Kd.R_make (Kd.int .i64) _ 3 rfl (N := 7) rfl 22 _ _ rfl (l0.length : Int) rfl rfl Try.underlying22 (.int .i64 0) 8 info3 rfl (by decide) (by omega) 0 (ok := fun _ => True) (okp := fun _ => True) rfl (fun _ hk => hk) trivial (of_decide_eq_true (by first | (with_reducible assumption) | assumption)) (Nat.le_trans (Nat.mul_le_mul_right _ (of_decide_eq_true (by first | (with_reducible assumption) | assumption) : (l0.length : Int).toNat ≤ 35184372088832)) (by omega)) (Below.refl _ _) (Nat.le_refl _) ?_; intro v674 w4 ho5 hb hg_ hnew_; clear hg_ hnew_; (first | rw [← Ny673.out] at ho5 | (simp only [Int.reduceToNat] at ho5; rw [← Ny673.out] at ho5)); have HO675 := Aside0.mk (Kd.R_lower ho5 (below_size (qD HB))); replace HB := uD HB hb; clear hb ho5))
      go_loopg [4] k (fun kq v4 w' => ∃ (x3_1 : List Int) (x4_1 : Int), v4 = .int .i64 x4_1 ∧ Aside0 (laws_toIntS.l0 kq l0 x3_1 x4_1 = some r) ∧ Aside0 (kq ≤ k) ∧ Aside0 (Kd.R (Kd.int .i64) 3 w' w.heap.size (fun _ => True) v674 x3_1) ∧ Aside0 (Below w.heap.size w w'))
      case atStart => exact ⟨(y673), (0), (by first | rfl | (simp; done) | (simp [*]; done) | (simp [bne]; done)), H', ⟨Nat.le_refl _⟩, ⟨qR HO675⟩, ⟨qD HB⟩⟩
      case round =>
        clear H'
        try clear c2
        try clear c2b0
        try clear c2b1
        try clear p2
        try clear c3
        try clear c3b0
        try clear c3b1
        obtain ⟨x3_1, x4_1, rfl, HA, HK1, HO_3, HB⟩ := hrel
        cases gk with
        | zero => exact absurd HA.out (by simp [laws_toIntS.l0])
        | succ k1 =>
          have H := HA.out
          clear HA
          simp only [laws_toIntS.l0] at H
          by_cases c6 : x4_1 < (l0.length : Int)
          · rw [if_pos c6] at H
            have c6b0 : decide (x4_1 < (l0.length : Int)) = true := decide_eq_true c6
            clear c6
            by_cases c7 : 0 ≤ x4_1
            · rw [if_pos c7] at H
              have c7b0 : decide (0 ≤ x4_1) = true := decide_eq_true c7
              clear c7
              by_cases c8 : x4_1 < (x3_1.length : Int)
              · rw [if_pos c8] at H
                have c8b0 : decide (x4_1 < (x3_1.length : Int)) = true := decide_eq_true c8
                clear c8
                obtain ⟨y677, hy677⟩ : ∃ y_ : List Int, y_ = (x3_1.set (x4_1 : Int).toNat (rd l0 x4_1)) := ⟨_, rfl⟩
                replace H : (laws_toIntS.l0 k1 l0 y677 (wrap64 (x4_1 + 1))) = some r := by first | (rw [hy677]; with_reducible exact H) | (have H2_ := (Option.bind_some _ _).symm.trans H; rw [hy677]; with_reducible exact H2_) | (have H2_ := (Option.bind_some _ _).symm.trans H; with_reducible exact H2_) | with_reducible exact H | (rw [hy677]; exact H) | exact H
                have Ny677 := Aside0.mk hy677
                clear hy677
                have H' := Aside0.mk H
                clear H
                have p676 : 0 ≤ (x4_1 : Int) := of_decide_eq_true (by first | (with_reducible assumption) | assumption)
                have q676 : x4_1 < (l0.length : Int) := of_decide_eq_true (by first | (with_reducible assumption) | assumption)
                obtain ⟨ad676, e676, hx676_0⟩ := Kd.at_int HR0.out x4_1 p676 q676
                cases e676
                replace hx676_0 := (HB.out.cell (World.block_lt_of_cell? w _ hx676_0)).trans hx676_0
                replace p676 := eq_true p676
                replace q676 := eq_true q676
                have p9 : 0 ≤ (x4_1 : Int) := of_decide_eq_true (by first | (with_reducible assumption) | assumption)
                have q9 : (x4_1 : Int) < ((x3_1.length : Int) : Int) := of_decide_eq_true (by first | (with_reducible assumption) | assumption)
                obtain ⟨go9, co9, eo9, gb9, gl9, cl9, HG9⟩ := Kd.R_form HO_3.out (by omega)
                (first | cases eo9 | (injection eo9 with ea_ en_ ec_; (first | subst ea_ | (injection ea_ with ea_; subst ea_)); subst ec_; clear en_))
                have GB9 := Aside0.mk gb9
                have GG9 := Aside0.mk HG9
                clear gb9 gl9 HG9
                obtain ⟨hx9_0, hf9_0⟩ := Kd.R_celln 0 HO_3.out (x4_1 : Int) p9 q9
                replace p9 := eq_true p9
                replace q9 := eq_true q9
                have HP10 := Kd.R_putg HO_3.out (x4_1 : Int) (rd l0 x4_1)
                go_wp2_with (first | ((with_reducible refine gate_store (t := 3) (p := 20) rfl ?_); refine store_event (t := 3) (p := 20) (v := ?vo_w11) (w1 := (wr.setCell ⟨go9, (x4_1 : Int).toNat, none⟩ (.int .i64 (rd l0 x4_1)))) ?hg ?ho ?hn ?hr ?_; (case ho => rfl); (case hg => rfl); (case hn => rfl); (case hr => first | (go_simp; done) | (go_simp; rfl)); intro w11 hw; have hg : wr.grownBy w11 (some go9) := (by rw [hw]; exact HP10.2); have hp_ : Kd.R (Kd.int .i64) 3 w11 w.heap.size (fun _ => True) (.slice (some ⟨go9, 0, none⟩) x3_1.length co9) y677 := (by rw [hw, Ny677.out]; exact HP10.1); clear HP10; have n0_ := Aside0.mk (hp_); have n1_ := Aside0.mk ((by rw [hw]; exact below_set (HB.out) GB9.out : Below w.heap.size w w11)); clear HO_3; clear HB; have HO_3 := n0_; have HB := n1_; clear n0_ n1_; clear hg hw hp_))
                go_roundg k1
                case measure => have := HK1.out; omega
                case rel => exact ⟨(y677), (wrap64 (x4_1 + 1)), (by first | rfl | (simp; done) | (simp [*]; done) | (simp [bne]; done)), H', ⟨by have := HK1.out; omega⟩, ⟨qR HO_3⟩, ⟨qD HB⟩⟩
              · rw [if_neg c8] at H
                exact absurd H (by simp)
            · rw [if_neg c7] at H
              exact absurd H (by simp)
          · rw [if_neg c6] at H
            have c6b0 : decide (x4_1 < (l0.length : Int)) = false := decide_eq_false c6
            clear c6
            obtain rfl := Option.some.inj H
            go_wp2
            go_ret
            exact ⟨_, by first | rfl | (simp [errW_none, errW_some] <;> rfl) | (simp [*, errW_none, errW_some] <;> rfl), qR HO_3, qD HB⟩
    · rw [if_neg c3] at H
      exact absurd H (by simp)
  · rw [if_neg c2] at H
    exact absurd H (by simp)

end Go.Proofs.Ytlmlamkbedfmhaa.P
end
section
namespace Go.Proofs.Ytlmlamkbedfmhaa.P
open Go.RowKit Go.Proofs.YtlmlamkbedfmhaaW.PrintWords Go.Proofs.YtlmlamkbedfmhaaW.PrintLast Go.Proofs.YtlmlamkbedfmhaaW.PrintMore
attribute [local go_sem] max2_int min2_int max_two min_two max_three min_three max_four min_four   -- for this text's walks alone
set_option linter.unusedVariables false
set_option linter.unusedSimpArgs false

/-! ### laws_eqIntS: function 19 -/
def laws_eqIntS.l0 : Nat → List Int → List Int → Int → Option (Bool)
  | 0, _, _, _ => none
  | k + 1, x0, x1, x5 => if x5 < (x0.length : Int) then (if 0 ≤ x5 then (if x5 < (x1.length : Int) then (if (rd x0 x5) = (rd x1 x5) then (laws_eqIntS.l0 k x0 x1 (wrap64 (x5 + 1))) else (some false)) else (none)) else (none)) else (some true)
def laws_eqIntS.f (k : Nat) (l0 : List Int) (l1 : List Int) : Option (Bool) := if (l0.length : Int) = (l1.length : Int) then (laws_eqIntS.l0 k l0 l1 0) else (some false)
set_option maxHeartbeats 8000000 in
set_option maxRecDepth 100000 in
theorem laws_eqIntS.calls (k : Nat) (A0 : Option Addr) (c0 : Nat) (l0 : List Int) (A1 : Option Addr) (c1 : Nat) (l1 : List Int) (r : Bool) (w : World) (hr0 : Kd.C (Kd.int .i64) w A0 l0.length l0) (hc0 : l0.length ≤ c0) (hr1 : Kd.C (Kd.int .i64) w A1 l1.length l1) (hc1 : l1.length ≤ c1) (h : laws_eqIntS.f k l0 l1 = some r) :
    Calls Try.prog 19 #[.slice A0 l0.length c0, .slice A1 l1.length c1] w fun e w' => e = .returned (.bool r) ∧ Drawn0 w w' := by
  have HR0 := Aside0.mk hr0
  have HC0 := Aside0.mk hc0
  clear hr0 hc0
  have HR1 := Aside0.mk hr1
  have HC1 := Aside0.mk hc1
  clear hr1 hc1
  have H : (if (l0.length : Int) = (l1.length : Int) then (laws_eqIntS.l0 k l0 l1 0) else (some false)) = some r := h
  clear h
  by_cases c3 : (l0.length : Int) = (l1.length : Int)
  · rw [if_pos c3] at H
    have c3b0 : ((l0.length : Int) == (l1.length : Int)) = true := beq_iff_eq.mpr c3
    have c3b1 : ((l0.length : Int) != (l1.length : Int)) = false := bne_eq_false_iff_eq.mpr c3
    have c3b2 : (l0.length == l1.length) = true := by first | simpa using c3 | (simp at c3 ⊢; omega)
    clear c3
    have H' := Aside0.mk H
    clear H
    go_enter Try.func19, Try.ntmps19
    go_wp2
    repeat (go_quiet (fail); try go_wp2)
    go_loopg [5] k (fun kq v5 w' => ∃ (x5_1 : Int), v5 = .int .i64 x5_1 ∧ Aside0 (laws_eqIntS.l0 kq l0 l1 x5_1 = some r) ∧ Aside0 (kq ≤ k) ∧ Drawn0 w w')
    case atStart => exact ⟨(0), (by first | rfl | (simp; done) | (simp [*]; done) | (simp [bne]; done)), H', ⟨Nat.le_refl _⟩, by repeat (first | exact Drawn0.refl _ | apply Drawn0.step)⟩
    case round =>
      clear H'
      try clear c1
      try clear p2
      try clear c3
      try clear c3b0
      try clear c3b1
      try clear c3b2
      obtain ⟨x5_1, rfl, HA, HK1, ⟨m1, rfl⟩⟩ := hrel
      cases gk with
      | zero => exact absurd HA.out (by simp [laws_eqIntS.l0])
      | succ k1 =>
        have H := HA.out
        clear HA
        simp only [laws_eqIntS.l0] at H
        by_cases c4 : x5_1 < (l0.length : Int)
        · rw [if_pos c4] at H
          have c4b0 : decide (x5_1 < (l0.length : Int)) = true := decide_eq_true c4
          clear c4
          by_cases c5 : 0 ≤ x5_1
          · rw [if_pos c5] at H
            have c5b0 : decide (0 ≤ x5_1) = true := decide_eq_true c5
            clear c5
            by_cases c6 : x5_1 < (l1.length : Int)
            · rw [if_pos c6] at H
              have c6b0 : decide (x5_1 < (l1.length : Int)) = true := decide_eq_true c6
              clear c6
              by_cases c7 : (rd l0 x5_1) = (rd l1 x5_1)
              · rw [if_pos c7] at H
                have c7b0 : ((rd l0 x5_1) == (rd l1 x5_1)) = true := beq_iff_eq.mpr c7
                have c7b1 : ((rd l0 x5_1) != (rd l1 x5_1)) = false := bne_eq_false_iff_eq.mpr c7
                clear c7
                have H' := Aside0.mk H
                clear H
                have p661 : 0 ≤ (x5_1 : Int) := of_decide_eq_true (by first | (with_reducible assumption) | assumption)
                have q661 : x5_1 < (l0.length : Int) := of_decide_eq_true (by first | (with_reducible assumption) | assumption)
                obtain ⟨ad661, e661, hx661_0⟩ := Kd.at_int HR0.out x5_1 p661 q661
                cases e661
                replace p661 := eq_true p661
                replace q661 := eq_true q661
                have p662 : 0 ≤ (x5_1 : Int) := of_decide_eq_true (by first | (with_reducible assumption) | assumption)
                have q662 : x5_1 < (l1.length : Int) := of_decide_eq_true (by first | (with_reducible assumption) | assumption)
                obtain ⟨ad662, e662, hx662_0⟩ := Kd.at_int HR1.out x5_1 p662 q662
                cases e662
                replace p662 := eq_true p662
                replace q662 := eq_true q662
                go_wp2
                repeat (go_quiet (fail); try go_wp2)
                go_roundg k1
                case measure => have := HK1.out; omega
                case rel => exact ⟨(wrap64 (x5_1 + 1)), (by first | rfl | (simp; done) | (simp [*]; done) | (simp [bne]; done)), H', ⟨by have := HK1.out; omega⟩, by repeat (first | exact Drawn0.refl _ | apply Drawn0.step)⟩
              · rw [if_neg c7] at H
                have c7b0 : ((rd l0 x5_1) == (rd l1 x5_1)) = false := beq_eq_false_iff_ne.mpr c7
                have c7b1 : ((rd l0 x5_1) != (rd l1 x5_1)) = true := bne_iff_ne.mpr c7
                obtain rfl := Option.some.inj H
                have p661 : 0 ≤ (x5_1 : Int) := of_decide_eq_true (by first | (with_reducible assumption) | assumption)
                have q661 : x5_1 < (l0.length : Int) := of_decide_eq_true (by first | (with_reducible assumption) | assumption)
                obtain ⟨ad661, e661, hx661_0⟩ := Kd.at_int HR0.out x5_1 p661 q661
                cases e661
                replace p661 := eq_true p661
                replace q661 := eq_true q661
                have p662 : 0 ≤ (x5_1 : Int) := of_decide_eq_true (by first | (with_reducible assumption) | assumption)
                have q662 : x5_1 < (l1.length : Int) := of_decide_eq_true (by first | (with_reducible assumption) | assumption)
                obtain ⟨ad662, e662, hx662_0⟩ := Kd.at_int HR1.out x5_1 p662 q662
                cases e662
                replace p662 := eq_true p662
                replace q662 := eq_true q662
                go_wp2
                repeat (go_quiet (fail); try go_wp2)
                go_ret
                exact ⟨by first | rfl | (simp; done) | (simp [*]; done), by repeat (first | exact Drawn0.refl _ | apply Drawn0.step)⟩
            · rw [if_neg c6] at H
              exact absurd H (by simp)
          · rw [if_neg c5] at H
            exact absurd H (by simp)
        · rw [if_neg c4] at H
          have c4b0 : decide (x5_1 < (l0.length : Int)) = false := decide_eq_false c4
          clear c4
          obtain rfl := Option.some.inj H
          go_wp2
          repeat (go_quiet (fail); try go_wp2)
          go_ret
          exact ⟨by first | rfl | (simp; done) | (simp [*]; done), by repeat (first | exact Drawn0.refl _ | apply Drawn0.step)⟩
  · rw [if_neg c3] at H
    have c3b0 : ((l0.length : Int) == (l1.length : Int)) = false := beq_eq_false_iff_ne.mpr c3
    have c3b1 : ((l0.length : Int) != (l1.length : Int)) = true := bne_iff_ne.mpr c3
    have c3b2 : (l0.length == l1.length) = false := by first | simpa using c3 | (simp at c3 ⊢; omega)
    obtain rfl := Option.some.inj H
    go_enter Try.func19, Try.ntmps19
    go_wp2
    repeat (go_quiet (fail); try go_wp2)
    go_ret
    exact ⟨by first | rfl | (simp; done) | (simp [*]; done), by repeat (first | exact Drawn0.refl _ | apply Drawn0.step)⟩

end Go.Proofs.Ytlmlamkbedfmhaa.P
end
section
namespace Go.Proofs.Ytlmlamkbedfmhaa.P
open Go.RowKit Go.Proofs.YtlmlamkbedfmhaaW.PrintWords Go.Proofs.YtlmlamkbedfmhaaW.PrintLast Go.Proofs.YtlmlamkbedfmhaaW.PrintMore
attribute [local go_sem] max2_int min2_int max_two min_two max_three min_three max_four min_four   -- for this text's walks alone
set_option linter.unusedVariables false
set_option linter.unusedSimpArgs false

/-! ### laws_markIntS: function 20 -/
def laws_markIntS.l0 : Nat → List Int → Int → Int → Option (Int × List Int)
  | 0, _, _, _ => none
  | k + 1, x0, x1, x5 => if x5 < (x0.length : Int) then (if 0 ≤ x5 then (laws_markIntS.l0 k (x0.set (x5 : Int).toNat x1) (wrap64 (x1 + 1)) (wrap64 (x5 + 1))) else (none)) else (some (x1, x0))
def laws_markIntS.f (k : Nat) (l0 : List Int) (a1 : Int) : Option (Int × List Int) := laws_markIntS.l0 k l0 a1 0
set_option maxHeartbeats 8000000 in
set_option maxRecDepth 100000 in
theorem laws_markIntS.calls (k : Nat) (P0_ : Nat → Prop) (u9000_ : Value) (l0 : List Int) (a1 : Int) (r1 : Int) (r2 : List Int) (w0 w : World) (hB : Below w0.heap.size w0 w) (ho0 : Kd.R (Kd.int .i64) 3 w w0.heap.size P0_ u9000_ l0) (h : laws_markIntS.f k l0 a1 = some (r1, r2)) :
    Calls Try.prog 20 #[u9000_, .int .i64 a1] w fun e w' => e = .returned (.int .i64 r1) ∧ Kd.R (Kd.int .i64) 3 w' w0.heap.size (fun k_ => (P0_ k_ ∨ w.heap.size ≤ k_)) u9000_ r2 ∧ Below w0.heap.size w0 w' ∧ Kept w w' (fun k_ => P0_ k_) := by
  have HO0 := Aside0.mk (show Kd.R (Kd.int .i64) 3 w w0.heap.size (fun k_ => (P0_ k_ ∨ w.heap.size ≤ k_)) u9000_ l0 from Kd.R_mono ho0 (fun k_ hk => (.inl hk)))
  have HK := Aside0.mk (Kept.refl w (fun k_ => P0_ k_))
  have HW0 := Aside0.mk hB.size
  have HB := Aside0.mk hB
  clear hB
  have H : (laws_markIntS.l0 k l0 a1 0) = some (r1, r2) := h
  clear h
  have H' := Aside0.mk H
  clear H
  go_enter Try.func20, Try.ntmps20
  go_wp2
  go_loopg [1, 5] k (fun kq v1 v5 w' => ∃ (x0_1 : List Int) (x1_1 : Int) (x5_1 : Int), v1 = .int .i64 x1_1 ∧ v5 = .int .i64 x5_1 ∧ Aside0 (laws_markIntS.l0 kq x0_1 x1_1 x5_1 = some (r1, r2)) ∧ Aside0 (kq ≤ k) ∧ Aside0 (Kd.R (Kd.int .i64) 3 w' w0.heap.size (fun k_ => (P0_ k_ ∨ w.heap.size ≤ k_)) u9000_ x0_1) ∧ Aside0 (Kept w w' (fun k_ => P0_ k_)) ∧ Aside0 (Below w0.heap.size w0 w'))
  case atStart => exact ⟨(l0), (a1), (0), (by first | rfl | (simp; done) | (simp [*]; done) | (simp [bne]; done)), (by first | rfl | (simp; done) | (simp [*]; done) | (simp [bne]; done)), H', ⟨Nat.le_refl _⟩, ⟨qR HO0⟩, ⟨qK HK⟩, ⟨qD HB⟩⟩
  case round =>
    clear H'
    try clear c2
    try clear p2
    obtain ⟨x0_1, x1_1, x5_1, rfl, rfl, HA, HK1, HO_0, HK, HB⟩ := hrel
    cases gk with
    | zero => exact absurd HA.out (by simp [laws_markIntS.l0])
    | succ k1 =>
      have H := HA.out
      clear HA
      simp only [laws_markIntS.l0] at H
      by_cases c3 : x5_1 < (x0_1.length : Int)
      · rw [if_pos c3] at H
        have c3b0 : decide (x5_1 < (x0_1.length : Int)) = true := decide_eq_true c3
        clear c3
        by_cases c4 : 0 ≤ x5_1
        · rw [if_pos c4] at H
          have c4b0 : decide (0 ≤ x5_1) = true := decide_eq_true c4
          clear c4
          obtain ⟨y663, hy663⟩ : ∃ y_ : List Int, y_ = (x0_1.set (x5_1 : Int).toNat x1_1) := ⟨_, rfl⟩
          replace H : (laws_markIntS.l0 k1 y663 (wrap64 (x1_1 + 1)) (wrap64 (x5_1 + 1))) = some (r1, r2) := by first | (rw [hy663]; with_reducible exact H) | (have H2_ := (Option.bind_some _ _).symm.trans H; rw [hy663]; with_reducible exact H2_) | (have H2_ := (Option.bind_some _ _).symm.trans H; with_reducible exact H2_) | with_reducible exact H | (rw [hy663]; exact H) | exact H
          have Ny663 := Aside0.mk hy663
          clear hy663
          have H' := Aside0.mk H
          clear H
          obtain ⟨Ao6, co6, eo6⟩ := Kd.R_slice HO_0.out
          subst eo6
          have p5 : 0 ≤ (x5_1 : Int) := of_decide_eq_true (by first | (with_reducible assumption) | assumption)
          have q5 : (x5_1 : Int) < ((x0_1.length : Int) : Int) := of_decide_eq_true (by first | (with_reducible assumption) | assumption)
          obtain ⟨go5, co5, eo5, gb5, gl5, cl5, HG5⟩ := Kd.R_form HO_0.out (by omega)
          (first | cases eo5 | (injection eo5 with ea_ en_ ec_; (first | subst ea_ | (injection ea_ with ea_; subst ea_)); subst ec_; clear en_))
          have GB5 := Aside0.mk gb5
          have GG5 := Aside0.mk HG5
          clear gb5 gl5 HG5
          have HMgo5 := Aside0.mk (show (P0_ go5 ∨ w.heap.size ≤ go5) from (HO_0.out.1 _ rfl))
          obtain ⟨hx5_0, hf5_0⟩ := Kd.R_celln 0 HO_0.out (x5_1 : Int) p5 q5
          replace p5 := eq_true p5
          replace q5 := eq_true q5
          have HP7 := Kd.R_putg HO_0.out (x5_1 : Int) x1_1
          go_wp2_with (first | ((with_reducible refine gate_store (t := 3) (p := 15) rfl ?_); refine store_event (t := 3) (p := 15) (v := ?vo_w8) (w1 := (wr.setCell ⟨go5, (x5_1 : Int).toNat, none⟩ (.int .i64 x1_1))) ?hg ?ho ?hn ?hr ?_; (case ho => rfl); (case hg => rfl); (case hn => rfl); (case hr => first | (go_simp; done) | (go_simp; rfl)); intro w8 hw; have hg : wr.grownBy w8 (some go5) := (by rw [hw]; exact HP7.2); have hp_ : Kd.R (Kd.int .i64) 3 w8 w0.heap.size (fun k_ => (P0_ k_ ∨ w.heap.size ≤ k_)) (.slice (some ⟨go5, 0, none⟩) x0_1.length co6) y663 := (by rw [hw, Ny663.out]; exact HP7.1); clear HP7; have n0_ := Aside0.mk (hp_); have n1_ := Aside0.mk ((by rw [hw]; exact below_set (HB.out) GB5.out : Below w0.heap.size w0 w8)); have n2_ := Aside0.mk (Kept.of_grown (S := (fun k_ => P0_ k_)) hg (qK HK) (fun k_ e_ => (HO_0.out.1 k_ e_))); clear HO_0; clear HB; clear HK; have HO_0 := n0_; have HB := n1_; have HK := n2_; clear n0_ n1_ n2_; clear hg hw hp_))
          go_roundg k1
          case measure => have := HK1.out; omega
          case rel => exact ⟨(y663), (wrap64 (x1_1 + 1)), (wrap64 (x5_1 + 1)), (by first | rfl | (simp; done) | (simp [*]; done) | (simp [bne]; done)), (by first | rfl | (simp; done) | (simp [*]; done) | (simp [bne]; done)), H', ⟨by have := HK1.out; omega⟩, ⟨qR HO_0⟩, ⟨qK HK⟩, ⟨qD HB⟩⟩
        · rw [if_neg c4] at H
          exact absurd H (by simp)
      · rw [if_neg c3] at H
        have c3b0 : decide (x5_1 < (x0_1.length : Int)) = false := decide_eq_false c3
        clear c3
        simp only [Option.some.injEq, Prod.mk.injEq] at H
        obtain ⟨rfl, rfl⟩ := H
        obtain ⟨Ao9, co9, eo9⟩ := Kd.R_slice HO_0.out
        subst eo9
        go_wp2
        go_ret
        exact ⟨by first | rfl | (simp [errW_none, errW_some] <;> rfl) | (simp [*, errW_none, errW_some] <;> rfl), qR HO_0, qD HB, qK HK⟩

end Go.Proofs.Ytlmlamkbedfmhaa.P
end
section
namespace Go.Proofs.Ytlmlamkbedfmhaa.P
open Go.RowKit Go.Proofs.YtlmlamkbedfmhaaW.PrintWords Go.Proofs.YtlmlamkbedfmhaaW.PrintLast Go.Proofs.YtlmlamkbedfmhaaW.PrintMore
attribute [local go_sem] max2_int min2_int max_two min_two max_three min_three max_four min_four   -- for this text's walks alone
set_option linter.unusedVariables false
set_option linter.unusedSimpArgs false

/-! ### laws_heldIntS: function 21 -/
def laws_heldIntS.l0 : Nat → List Int → Int → Int → Option (Int)
  | 0, _, _, _ => none
  | k + 1, x0, x1, x5 => if x5 < (x0.length : Int) then (if 0 ≤ x5 then (if (rd x0 x5) = x1 then (laws_heldIntS.l0 k x0 (wrap64 (x1 + 1)) (wrap64 (x5 + 1))) else (some (-1))) else (none)) else (some x1)
def laws_heldIntS.f (k : Nat) (l0 : List Int) (a1 : Int) : Option (Int) := laws_heldIntS.l0 k l0 a1 0
set_option maxHeartbeats 8000000 in
set_option maxRecDepth 100000 in
theorem laws_heldIntS.calls (k : Nat) (A0 : Option Addr) (c0 : Nat) (l0 : List Int) (a1 : Int) (r : Int) (w : World) (hr0 : Kd.C (Kd.int .i64) w A0 l0.length l0) (hc0 : l0.length ≤ c0) (h : laws_heldIntS.f k l0 a1 = some r) :
    Calls Try.prog 21 #[.slice A0 l0.length c0, .int .i64 a1] w fun e w' => e = .returned (.int .i64 r) ∧ Drawn0 w w' := by
  have HR0 := Aside0.mk hr0
  have HC0 := Aside0.mk hc0
  clear hr0 hc0
  have H : (laws_heldIntS.l0 k l0 a1 0) = some r := h
  clear h
  have H' := Aside0.mk H
  clear H
  go_enter Try.func21, Try.ntmps21
  go_wp2
  go_loopg [1, 5] k (fun kq v1 v5 w' => ∃ (x1_1 : Int) (x5_1 : Int), v1 = .int .i64 x1_1 ∧ v5 = .int .i64 x5_1 ∧ Aside0 (laws_heldIntS.l0 kq l0 x1_1 x5_1 = some r) ∧ Aside0 (kq ≤ k) ∧ Drawn0 w w')
  case atStart => exact ⟨(a1), (0), (by first | rfl | (simp; done) | (simp [*]; done) | (simp [bne]; done)), (by first | rfl | (simp; done) | (simp [*]; done) | (simp [bne]; done)), H', ⟨Nat.le_refl _⟩, by repeat (first | exact Drawn0.refl _ | apply Drawn0.step)⟩
  case round =>
    clear H'
    try clear c2
    try clear p2
    obtain ⟨x1_1, x5_1, rfl, rfl, HA, HK1, ⟨m1, rfl⟩⟩ := hrel
    cases gk with
    | zero => exact absurd HA.out (by simp [laws_heldIntS.l0])
    | succ k1 =>
      have H := HA.out
      clear HA
      simp only [laws_heldIntS.l0] at H
      by_cases c3 : x5_1 < (l0.length : Int)
      · rw [if_pos c3] at H
        have c3b0 : decide (x5_1 < (l0.length : Int)) = true := decide_eq_true c3
        clear c3
        by_cases c4 : 0 ≤ x5_1
        · rw [if_pos c4] at H
          have c4b0 : decide (0 ≤ x5_1) = true := decide_eq_true c4
          clear c4
          by_cases c5 : (rd l0 x5_1) = x1_1
          · rw [if_pos c5] at H
            have c5b0 : ((rd l0 x5_1) == x1_1) = true := beq_iff_eq.mpr c5
            have c5b1 : ((rd l0 x5_1) != x1_1) = false := bne_eq_false_iff_eq.mpr c5
            clear c5
            have H' := Aside0.mk H
            clear H
            have p664 : 0 ≤ (x5_1 : Int) := of_decide_eq_true (by first | (with_reducible assumption) | assumption)
            have q664 : x5_1 < (l0.length : Int) := of_decide_eq_true (by first | (with_reducible assumption) | assumption)
            obtain ⟨ad664, e664, hx664_0⟩ := Kd.at_int HR0.out x5_1 p664 q664
            cases e664
            replace p664 := eq_true p664
            replace q664 := eq_true q664
            go_wp2
            go_roundg k1
            case measure => have := HK1.out; omega
            case rel => exact ⟨(wrap64 (x1_1 + 1)), (wrap64 (x5_1 + 1)), (by first | rfl | (simp; done) | (simp [*]; done) | (simp [bne]; done)), (by first | rfl | (simp; done) | (simp [*]; done) | (simp [bne]; done)), H', ⟨by have := HK1.out; omega⟩, by repeat (first | exact Drawn0.refl _ | apply Drawn0.step)⟩
          · rw [if_neg c5] at H
            have c5b0 : ((rd l0 x5_1) == x1_1) = false := beq_eq_false_iff_ne.mpr c5
            have c5b1 : ((rd l0 x5_1) != x1_1) = true := bne_iff_ne.mpr c5
            obtain rfl := Option.some.inj H
            have p664 : 0 ≤ (x5_1 : Int) := of_decide_eq_true (by first | (with_reducible assumption) | assumption)
            have q664 : x5_1 < (l0.length : Int) := of_decide_eq_true (by first | (with_reducible assumption) | assumption)
            obtain ⟨ad664, e664, hx664_0⟩ := Kd.at_int HR0.out x5_1 p664 q664
            cases e664
            replace p664 := eq_true p664
            replace q664 := eq_true q664
            go_wp2
            go_ret
            exact ⟨by first | rfl | (simp; done) | (simp [*]; done), by repeat (first | exact Drawn0.refl _ | apply Drawn0.step)⟩
        · rw [if_neg c4] at H
          exact absurd H (by simp)
      · rw [if_neg c3] at H
        have c3b0 : decide (x5_1 < (l0.length : Int)) = false := decide_eq_false c3
        clear c3
        obtain rfl := Option.some.inj H
        go_wp2
        go_ret
        exact ⟨by first | rfl | (simp; done) | (simp [*]; done), by repeat (first | exact Drawn0.refl _ | apply Drawn0.step)⟩

end Go.Proofs.Ytlmlamkbedfmhaa.P
end
section
set_option linter.unusedVariables false
set_option linter.unusedSimpArgs false
namespace Go.Proofs.Ytlmlamkbedfmhaa.P
open Go.RowKit Go.Proofs.YtlmlamkbedfmhaaW.PrintWords Go.Proofs.YtlmlamkbedfmhaaW.PrintLast Go.Proofs.YtlmlamkbedfmhaaW.PrintMore

/-- What marking leaves: the numbers from a on. -/
def ramp (a : Int) (n : Nat) : List Int := (List.range n).map fun j => a + (j : Nat)
end Go.Proofs.Ytlmlamkbedfmhaa.P
end
section
namespace Go.Proofs.Ytlmlamkbedfmhaa.P
open Go.RowKit Go.Proofs.YtlmlamkbedfmhaaW.PrintWords Go.Proofs.YtlmlamkbedfmhaaW.PrintLast Go.Proofs.YtlmlamkbedfmhaaW.PrintMore
attribute [local go_sem] max2_int min2_int max_two min_two max_three min_three max_four min_four   -- for this text's walks alone
set_option linter.unusedVariables false
set_option linter.unusedSimpArgs false

/-! ### spec_laIf: function 92 -/
def spec_laIf.f (k : Nat) (a0_0 : Int) (l0_1 : List Int) : Option (Int × List Int × Bool) := (spec_laGood.f k a0_0 l0_1).bind fun t706 => (if t706 = true then (some (a0_0, l0_1, true)) else (some (0, ([] : List Int), false)))
set_option maxHeartbeats 8000000 in
set_option maxRecDepth 100000 in
theorem spec_laIf.calls (k : Nat) (a0_0 : Int) (P0_1_ : Nat → Prop) (u9000_ : Value) (l0_1 : List Int) (r1 : Int) (r2 : List Int) (r3 : Bool) (w0 w : World) (hB : Below w0.heap.size w0 w) (ho0_1 : Kd.R (Kd.int .i64) 3 w w0.heap.size P0_1_ u9000_ l0_1) (h : spec_laIf.f k a0_0 l0_1 = some (r1, r2, r3)) :
    Calls Try.prog 92 #[.agg #[.int .i64 a0_0, u9000_]] w fun e w' => ∃ v1_ : Value, e = .returned (.tuple #[.agg #[.int .i64 r1, v1_], .bool r3]) ∧ Kd.R (Kd.int .i64) 3 w' w0.heap.size (fun k_ => (P0_1_ k_ ∨ w.heap.size ≤ k_)) v1_ r2 ∧ Below w0.heap.size w0 w' ∧ Kept w w' (fun k_ => P0_1_ k_) := by
  have hu26 := Try.underlying26
  have HO0_1 := Aside0.mk (show Kd.R (Kd.int .i64) 3 w w0.heap.size (fun k_ => (P0_1_ k_ ∨ w.heap.size ≤ k_)) u9000_ l0_1 from Kd.R_mono ho0_1 (fun k_ hk => (.inl hk)))
  have HK := Aside0.mk (Kept.refl w (fun k_ => P0_1_ k_))
  have HW0 := Aside0.mk hB.size
  have HB := Aside0.mk hB
  clear hB
  have H : ((spec_laGood.f k a0_0 l0_1).bind fun t706 => (if t706 = true then (some (a0_0, l0_1, true)) else (some (0, ([] : List Int), false)))) = some (r1, r2, r3) := h
  clear h
  replace H := Option.bind_eq_some_iff.mp H
  obtain ⟨t706, A20, H⟩ := H
  replace H : (if t706 = true then (some (a0_0, l0_1, true)) else (some (0, ([] : List Int), false))) = some (r1, r2, r3) := H
  have A2 := Aside0.mk A20
  clear A20
  by_cases c3 : t706 = true
  · subst c3
    have H1 : (some (a0_0, l0_1, true)) = some (r1, r2, r3) := by rw [if_pos rfl] at H; exact H
    clear H
    have H := H1
    clear H1
    simp only [Option.some.injEq, Prod.mk.injEq] at H
    obtain ⟨rfl, rfl, rfl⟩ := H
    obtain ⟨Ao4, co4, eo4⟩ := Kd.R_slice HO0_1.out
    subst eo4
    go_enter Try.func92, Try.ntmps92
    go_wp2_with (first | ((with_reducible refine gate_dst (N := 1) rfl ?_); refine bx 1 #[.int .i64 a0_0, .slice Ao4 l0_1.length co4] 26 ?_; intro gb704 hg w5 hbox hb; replace HO0_1 := uR HO0_1 hb; have BK704 := Aside0.mk (hbox); have GW704 := gK hg HK; replace HK := uK HK hb; have GE704 := gE hg HB; replace HB := uD HB hb; clear hb hbox hg) | ((with_reducible refine gate_dst (N := 2) rfl ?_); refine bx 2 #[.int .i64 0, .slice none 0 0] 26 ?_; intro gb705 hg w6 hbox hb; replace HO0_1 := uR HO0_1 hb; have BK705 := Aside0.mk (hbox); have GW705 := gK hg HK; replace HK := uK HK hb; have GE705 := gE hg HB; replace HB := uD HB hb; have NB704_705 := nB hg BK704; have NB705_704 := nC hg BK704; replace BK704 := uB BK704 hb; clear hb hbox hg; have hnb7 := NB704_705.out; have hnc7 := NB705_704.out; have hcz8_0 := cl BK704 0; have hcz8_1 := cl BK704 1; have hfz8_0 := blk_frozen BK704.out 0; have hfz8_1 := blk_frozen BK704.out 1) | ((with_reducible refine gate_callee (f := 90) rfl ?_); refine gs (some 5) Try.func90 #[.agg #[.int .i64 a0_0, .slice Ao4 l0_1.length co4]] ?_; (with_reducible refine (spec_laGood.calls k a0_0 _ _ l0_1 true _ ?side1 ?side2 A2.out).mono ?_); (case side1 => exact qC (Kd.R_reads' HO0_1.out).2.2); (case side2 => exact (Kd.R_reads' HO0_1.out).2.1); rintro e w9 ⟨rfl, hb⟩; refine ⟨_, rfl, ?_⟩; replace HO0_1 := uR HO0_1 hb; replace BK704 := uB BK704 hb; replace BK705 := uB BK705 hb; replace HK := uK HK hb; replace HB := uD HB hb; (try clear hb); (try clear hb2); (try clear hk); (try clear hi); have hcz10_0 := cl BK704 0; have hcz10_1 := cl BK704 1; have hfz10_0 := blk_frozen BK704.out 0; have hfz10_1 := blk_frozen BK704.out 1; have hcz11_0 := cl BK705 0; have hcz11_1 := cl BK705 1; have hfz11_0 := blk_frozen BK705.out 0; have hfz11_1 := blk_frozen BK705.out 1))
    refine bodyPost_ret (results_ct rfl _ _ gb705 26 #[.int .i64 a0_0, .slice Ao4 l0_1.length co4] (0, 0) _ rfl (by (with_reducible repeat (first | refine blk_drewN ?_ _ | refine blk_drew ?_ | refine blk_alloc ?_ _)); refine blk_put (cs := #[.int .i64 a0_0, .slice none 0 0]) ?_ 1 _ rfl; (with_reducible repeat (first | refine blk_drewN ?_ _ | refine blk_drew ?_ | refine blk_alloc ?_ _)); refine blk_put (cs := #[.int .i64 0, .slice none 0 0]) ?_ 0 _ rfl; (with_reducible repeat (first | refine blk_drewN ?_ _ | refine blk_drew ?_ | refine blk_alloc ?_ _)); exact BK705.out) Try.underlying26 rfl (by kernel_rfl)) rfl ?_
    exact ⟨_, by first | rfl | (simp [errW_none, errW_some] <;> rfl) | (simp [*, errW_none, errW_some] <;> rfl), by (with_reducible repeat (first | apply Kd.R_alloc | apply Kd.R_drewN | apply Kd.R_drew)); exact Kd.R_mono (Kd.R_far (p := ⟨gb705, 1, none⟩) (Kd.R_far (p := ⟨gb705, 0, none⟩) (Kd.R_types HO0_1.out BK705.out (by decide)) (fun _ hk => hk.2) (.int .i64 a0_0)) (fun _ hk => hk.2) (.slice Ao4 l0_1.length co4)) (fun _ hk => hk.1), qD HB, qK HK⟩
  · replace c3 := Bool.eq_false_iff.mpr c3
    subst c3
    have H1 : (some (0, ([] : List Int), false)) = some (r1, r2, r3) := by rw [if_neg (show ¬ (false = true) by decide)] at H; exact H
    clear H
    have H := H1
    clear H1
    simp only [Option.some.injEq, Prod.mk.injEq] at H
    obtain ⟨rfl, rfl, rfl⟩ := H
    obtain ⟨Ao12, co12, eo12⟩ := Kd.R_slice HO0_1.out
    subst eo12
    go_enter Try.func92, Try.ntmps92
    go_wp2_with (first | ((with_reducible refine gate_dst (N := 1) rfl ?_); refine bx 1 #[.int .i64 a0_0, .slice Ao12 l0_1.length co12] 26 ?_; intro gb704 hg w13 hbox hb; replace HO0_1 := uR HO0_1 hb; have BK704 := Aside0.mk (hbox); have GW704 := gK hg HK; replace HK := uK HK hb; have GE704 := gE hg HB; replace HB := uD HB hb; clear hb hbox hg) | ((with_reducible refine gate_dst (N := 2) rfl ?_); refine bx 2 #[.int .i64 0, .slice none 0 0] 26 ?_; intro gb705 hg w14 hbox hb; replace HO0_1 := uR HO0_1 hb; have BK705 := Aside0.mk (hbox); have GW705 := gK hg HK; replace HK := uK HK hb; have GE705 := gE hg HB; replace HB := uD HB hb; have NB704_705 := nB hg BK704; have NB705_704 := nC hg BK704; replace BK704 := uB BK704 hb; clear hb hbox hg; have hnb15 := NB704_705.out; have hnc15 := NB705_704.out; have hcz16_0 := cl BK704 0; have hcz16_1 := cl BK704 1; have hfz16_0 := blk_frozen BK704.out 0; have hfz16_1 := blk_frozen BK704.out 1) | ((with_reducible refine gate_callee (f := 90) rfl ?_); refine gs (some 5) Try.func90 #[.agg #[.int .i64 a0_0, .slice Ao12 l0_1.length co12]] ?_; (with_reducible refine (spec_laGood.calls k a0_0 _ _ l0_1 false _ ?side1 ?side2 A2.out).mono ?_); (case side1 => exact qC (Kd.R_reads' HO0_1.out).2.2); (case side2 => exact (Kd.R_reads' HO0_1.out).2.1); rintro e w17 ⟨rfl, hb⟩; refine ⟨_, rfl, ?_⟩; replace HO0_1 := uR HO0_1 hb; replace BK704 := uB BK704 hb; replace BK705 := uB BK705 hb; replace HK := uK HK hb; replace HB := uD HB hb; (try clear hb); (try clear hb2); (try clear hk); (try clear hi); have hcz18_0 := cl BK705 0; have hcz18_1 := cl BK705 1; have hfz18_0 := blk_frozen BK705.out 0; have hfz18_1 := blk_frozen BK705.out 1))
    refine bodyPost_ret (results_ct rfl _ _ gb705 26 #[.int .i64 0, .slice none 0 0] (0, 0) _ rfl (by (with_reducible repeat (first | refine blk_drewN ?_ _ | refine blk_drew ?_ | refine blk_alloc ?_ _)); refine blk_put (cs := #[.int .i64 0, .slice none 0 0]) ?_ 1 _ rfl; (with_reducible repeat (first | refine blk_drewN ?_ _ | refine blk_drew ?_ | refine blk_alloc ?_ _)); refine blk_put (cs := #[.int .i64 0, .slice none 0 0]) ?_ 0 _ rfl; (with_reducible repeat (first | refine blk_drewN ?_ _ | refine blk_drew ?_ | refine blk_alloc ?_ _)); exact BK705.out) Try.underlying26 rfl (by kernel_rfl)) rfl ?_
    exact ⟨_, by first | rfl | (simp [errW_none, errW_some] <;> rfl) | (simp [*, errW_none, errW_some] <;> rfl), by first | exact Kd.R_nil _ _ _ _ _ | exact Kd.N_nil _ _ _ _ _ | exact Kd.V_nil _ _ _ _ _ | exact Kd.Q_nil _ _ _ _ _ | exact Kd.S_nil _ _ _ _ _, qD HB, qK HK⟩

end Go.Proofs.Ytlmlamkbedfmhaa.P
end
section
set_option linter.unusedVariables false
set_option linter.unusedSimpArgs false
namespace Go.Proofs.Ytlmlamkbedfmhaa.P
open Go.RowKit Go.Proofs.YtlmlamkbedfmhaaW.PrintWords Go.Proofs.YtlmlamkbedfmhaaW.PrintLast Go.Proofs.YtlmlamkbedfmhaaW.PrintMore

theorem spec_l1In_eq (x lo hi : Int) : spec_l1In.f x lo hi = some (decide (lo ≤ x ∧ x ≤ hi)) := by
  unfold spec_l1In.f
  by_cases h : x ≥ lo
  · rw [if_pos h]; congr 1; by_cases h2 : x ≤ hi <;> simp [h2] <;> omega
  · rw [if_neg h]; congr 1; simp; omega
theorem impl_between_eq (x lo hi : Int) : impl_between.f x lo hi = some (decide (lo ≤ x ∧ x ≤ hi)) := impl_isLadder.betw x lo hi
theorem l1All_loop (l : List Int) (lo hi : Int) (hb : l.length ≤ 9223372036854775807) : ∀ d i : Nat, i + d = l.length → Ev (fun k => spec_l1All.l0 k lo hi l (l.length : Int) (i : Int)) ((l.drop i).all (fun r => decide (lo ≤ r ∧ r ≤ hi))) := by
  intro d
  induction d with
  | zero =>
    intro i hi'
    refine Ev.step (fun k => by rw [spec_l1All.l0]) ?_
    refine Ev.no (by omega) (Ev.ret ?_)
    rw [List.drop_eq_nil_of_le (by omega)]; rfl
  | succ d ih =>
    intro i hi'
    refine Ev.step (fun k => by rw [spec_l1All.l0]) ?_
    have ha : i < l.length := by omega
    refine Ev.yes (by omega) (Ev.yes (by omega) (Ev.yes (by omega) ?_))
    refine Ev.known (spec_l1In_eq _ _ _) ?_
    rw [rd_nat ha, w64i ha hb, List.drop_eq_getElem_cons ha, List.all_cons]
    cases h : decide (lo ≤ l[i] ∧ l[i] ≤ hi)
    · exact Ev.no (by simp) (Ev.ret (by simp))
    · exact Ev.yes rfl (Ev.eq (ih (i + 1) (by omega)) (by simp))
theorem l1All_ev (l : List Int) (lo hi : Int) (hb : l.length ≤ 9223372036854775807) : Ev (fun k => spec_l1All.f k l lo hi) (l.all (fun r => decide (lo ≤ r ∧ r ≤ hi))) := by
  unfold spec_l1All.f
  simpa using l1All_loop l lo hi hb l.length 0 (by omega)
theorem laGood_ev (n : Int) (l : List Int) (hb : l.length ≤ 9223372036854775807) : Ev (fun k => spec_laGood.f k n l) (ladderOk n l) := by
  unfold spec_laGood.f
  refine Ev.known (spec_l1In_eq _ _ _) ?_
  unfold ladderOk
  by_cases h : 2 ≤ n ∧ n ≤ 8
  · refine Ev.yes (by simp [h]) ?_
    by_cases h2 : l.length ≤ 60
    · refine Ev.yes (by omega) ?_
      rw [w64 (by omega) (by omega)]
      exact Ev.bind (l1All_ev l 0 (n - 2) hb) (Ev.ret (by simp [h, h2]))
    · exact Ev.no (by omega) (Ev.ret (by simp [h2]))
  · exact Ev.no (by simp; omega) (Ev.ret (by rw [decide_eq_false h]; rfl))
/-- A ladder if it is one, or none. -/
def ladderIf (n : Int) (l : List Int) : Int × List Int × Bool := if ladderOk n l = true then (n, l, true) else (0, [], false)
theorem checked_eq (n : Int) (l : List Int) : impl_checked.f n l = some (ladderIf n l) := by
  unfold impl_checked.f impl_isLadder.f ladderIf
  rw [Option.bind_some]
  by_cases h : ladderOk n l = true <;> simp [h]
theorem isLadder_eq (n : Int) (l : List Int) : impl_isLadder.f n l = some (ladderOk n l) := rfl
theorem l1Own_eq (l : List Int) (h : l.length < 17592186044416) : spec_l1Own.f l = some l := by
  unfold spec_l1Own.f
  simp [h]
theorem ladderOk_wires {n : Int} {l : List Int} (h : ladderOk n l = true) : 2 ≤ n ∧ n ≤ 8 := by
  unfold ladderOk at h; simp at h; omega
theorem ladderOk_len {n : Int} {l : List Int} (h : ladderOk n l = true) : l.length ≤ 60 := by
  unfold ladderOk at h; simp at h; omega
theorem ladderOk_iff {n : Int} {l : List Int} : ladderOk n l = true ↔ 2 ≤ n ∧ n ≤ 8 ∧ l.length ≤ 60 ∧ ∀ r ∈ l, 0 ≤ r ∧ r ≤ n - 2 := by
  unfold ladderOk; simp [and_assoc]
end Go.Proofs.Ytlmlamkbedfmhaa.P
end
section
set_option linter.unusedVariables false
set_option linter.unusedSimpArgs false
namespace Go.Proofs.Ytlmlamkbedfmhaa.P
open Go.RowKit Go.Proofs.YtlmlamkbedfmhaaW.PrintWords Go.Proofs.YtlmlamkbedfmhaaW.PrintLast Go.Proofs.YtlmlamkbedfmhaaW.PrintMore

/-- Where one stands behind a rung. -/
def over (x r : Int) : Int := if x = r then r + 1 else if x = r + 1 then r else x
theorem over_bound {n : Nat} {x r : Int} (h0 : 0 ≤ x) (h1 : x < n) (h2 : 0 ≤ r) (h3 : r + 1 < n) : 0 ≤ over x r ∧ over x r < n := by
  unfold over; split
  · omega
  · split <;> omega
theorem impl_over_eq {x r : Int} (h : 0 ≤ r) (h1 : r ≤ 100000) : impl_over.f x r = some (over x r) := by
  unfold impl_over.f over
  rw [w64 (by omega) (by omega)]
  by_cases a : x = r
  · rw [if_pos a, if_pos a]
  · rw [if_neg a, if_neg a]; by_cases b : x = r + 1
    · rw [if_pos b, if_pos b]
    · rw [if_neg b, if_neg b]
theorem spec_laOver_eq {x r : Int} (h : 0 ≤ r) (h1 : r ≤ 100000) : spec_laOver.f x r = some (over x r) := impl_over_eq h h1
/-- Who can win with so many moves left. -/
def pl (n : Nat) (goal : Int) : Nat → Bool → Int → Bool
  | 0, _, x => x == goal
  | m + 1, true, x => (List.range' 0 (n - 1)).any fun r => pl n goal m false (over x (r : Nat))
  | m + 1, false, x => (List.range' 0 (n - 1)).all fun r => pl n goal m true (over x (r : Nat))
def plFrom (n : Nat) (goal : Int) (m : Nat) (mine : Bool) (x : Int) (i d : Nat) : Bool :=
  if mine = true then (List.range' i d).any (fun r => pl n goal m (!mine) (over x (r : Nat))) else (List.range' i d).all (fun r => pl n goal m (!mine) (over x (r : Nat)))
theorem pl_succ (n : Nat) (goal : Int) (m : Nat) (mine : Bool) (x : Int) : pl n goal (m + 1) mine x = plFrom n goal m mine x 0 (n - 1) := by
  cases mine <;> rfl
theorem plFrom_succ (n : Nat) (goal : Int) (m : Nat) (mine : Bool) (x : Int) (i d : Nat) : plFrom n goal m mine x i (d + 1) = if (pl n goal m (!mine) (over x (i : Nat)) == mine) = true then mine else plFrom n goal m mine x (i + 1) d := by
  unfold plFrom; cases mine <;> simp [List.range'_succ] <;> cases pl n goal m _ (over x (i : Nat)) <;> simp
theorem placeWins_ev (n : Nat) (goal : Int) (hn : 2 ≤ n) (hn8 : n ≤ 8) : ∀ m : Nat, m ≤ 8 → ∀ (mine : Bool) (x : Int), Ev (fun k => impl_placeWins.f k (n : Int) x goal (m : Int) mine) (pl n goal m mine x) := by
  intro m
  induction m with
  | zero =>
    intro _ mine x
    refine Ev.step (fun k => by rw [impl_placeWins.f]) ?_
    exact Ev.yes rfl (Ev.ret rfl)
  | succ m ih =>
    intro hm mine x
    have key : ∀ d i : Nat, i + d = n - 1 → Ev (fun k => impl_placeWins.l0 k (n : Int) x goal ((m + 1 : Nat) : Int) mine ((n - 1 : Nat) : Int) (i : Int)) (plFrom n goal m mine x i d) := by
      intro d
      induction d with
      | zero =>
        intro i hi
        refine Ev.step (fun k => by rw [impl_placeWins.l0]) ?_
        refine Ev.no (by omega) (Ev.ret ?_)
        cases mine <;> rfl
      | succ d ihd =>
        intro i hi
        refine Ev.step (fun k => by rw [impl_placeWins.l0]) ?_
        refine Ev.yes (by omega) ?_
        refine Ev.known (impl_over_eq (by omega) (by omega)) ?_
        rw [w64 (by omega) (by omega)]
        have e : ((m + 1 : Nat) : Int) - 1 = (m : Nat) := by omega
        rw [e, w64i (show i < n by omega) (by omega)]
        refine Ev.bind (ih (by omega) (!mine) (over x (i : Nat))) ?_
        rw [plFrom_succ]
        by_cases hc : (pl n goal m (!mine) (over x (i : Nat)) == mine) = true
        · rw [if_pos hc]; exact Ev.yes hc (Ev.ret rfl)
        · rw [if_neg hc]; exact Ev.no hc (ihd (i + 1) (by omega))
    refine Ev.step (fun k => by rw [impl_placeWins.f]) ?_
    refine Ev.no (by omega) ?_
    rw [w64 (by omega) (by omega)]
    have e : (n : Int) - 1 = ((n - 1 : Nat) : Int) := by omega
    rw [e, pl_succ]
    exact key (n - 1) 0 (by omega)
/-! ### the reference's table -/
def row (n : Nat) (w : Int → Bool) : List Bool := (List.range n).map fun y => w (y : Nat)
theorem row_length (n : Nat) (w : Int → Bool) : (row n w).length = n := by simp [row]
theorem row_at {n : Nat} {w : Int → Bool} {t : Int} (h : 0 ≤ t) (h1 : t < n) : rdOf false (row n w) t = w t := by
  obtain ⟨y, rfl⟩ := Int.eq_ofNat_of_zero_le h
  unfold rdOf row
  have : y < n := by omega
  simp [this]
def nextOf (n : Nat) (w : Int → Bool) (mine : Bool) (x : Int) (sm al : Bool) (i d : Nat) : Bool :=
  if mine = true then sm || (List.range' i d).any (fun r => w (over x (r : Nat))) else al && (List.range' i d).all (fun r => w (over x (r : Nat)))
theorem gaPlaces_l2 (n : Nat) (hn : 2 ≤ n) (hn8 : n ≤ 8) (a2 : Int) (a3 : Bool) (w : Int → Bool) (j : Int) (mine : Bool) (nx : List Bool) (hl : nx.length = n) (x : Nat) (hx : x < n) (r : List Bool) :
    ∀ d i : Nat, i + d = n - 1 → ∀ sm al : Bool, Ev (fun k => spec_gaPlaces.l1 k (n : Int) a2 a3 (row n w) j mine (nx.set x (nextOf n w mine (x : Nat) sm al i d)) ((x + 1 : Nat) : Int)) r →
      Ev (fun k => spec_gaPlaces.l2 k (n : Int) a2 a3 (row n w) j mine nx (x : Int) sm al (i : Int)) r := by
  intro d
  induction d with
  | zero =>
    intro i hi sm al h
    refine Ev.step (fun k => by rw [spec_gaPlaces.l2]) ?_
    rw [w64 (by omega) (by omega)]
    refine Ev.no (by omega) ?_
    rw [w64i hx (by omega), Int.toNat_natCast]
    cases mine
    · refine Ev.no (by simp) (Ev.yes (by omega) (Ev.yes (by omega) ?_))
      simpa [nextOf] using h
    · refine Ev.yes rfl ?_
      cases sm
      · refine Ev.no (by simp) (Ev.yes (by omega) (Ev.yes (by omega) ?_))
        simpa [nextOf] using h
      · refine Ev.yes rfl (Ev.yes (by omega) (Ev.yes (by omega) ?_))
        simpa [nextOf] using h
  | succ d ih =>
    intro i hi sm al h
    refine Ev.step (fun k => by rw [spec_gaPlaces.l2]) ?_
    rw [w64 (show -9223372036854775808 ≤ (n : Int) - 1 by omega) (by omega)]
    refine Ev.yes (by omega) ?_
    rw [w64i (show i < n by omega) (by omega)]
    have ob := over_bound (n := n) (x := (x : Nat)) (r := (i : Nat)) (by omega) (by omega) (by omega) (by omega)
    have step : ∀ sm' al' : Bool, sm' = (sm || w (over (x : Nat) (i : Nat))) → al' = (al && w (over (x : Nat) (i : Nat))) →
        Ev (fun k => spec_gaPlaces.l2 k (n : Int) a2 a3 (row n w) j mine nx (x : Int) sm' al' ((i + 1 : Nat) : Int)) r := by
      rintro sm' al' rfl rfl
      refine ih (i + 1) (by omega) _ _ ?_
      have e : nextOf n w mine (x : Nat) (sm || w (over (x : Nat) (i : Nat))) (al && w (over (x : Nat) (i : Nat))) (i + 1) d = nextOf n w mine (x : Nat) sm al i (d + 1) := by
        unfold nextOf; simp [List.range'_succ, Bool.or_assoc, Bool.and_assoc]
      rw [e]; exact h
    have ov : spec_laOver.f ((x : Nat) : Int) ((i : Nat) : Int) = some (over (x : Nat) (i : Nat)) := spec_laOver_eq (by omega) (by omega)
    have len := row_length n w
    cases sm
    · refine Ev.no (by simp) (Ev.known ov (Ev.yes ob.1 (Ev.yes (by omega) ?_)))
      rw [row_at ob.1 ob.2]
      cases al
      · exact Ev.no (by simp) (step _ _ (by simp) (by simp))
      · exact Ev.yes rfl (Ev.known ov (Ev.yes ob.1 (Ev.yes (by omega) (step _ _ (by simp) (by rw [row_at ob.1 ob.2]; simp)))))
    · refine Ev.yes rfl ?_
      cases al
      · exact Ev.no (by simp) (step _ _ (by simp) (by simp))
      · refine Ev.yes rfl (Ev.known ov (Ev.yes ob.1 (Ev.yes (by omega) ?_)))
        rw [row_at ob.1 ob.2]
        exact step _ _ (by simp) (by simp)
theorem gaPlaces_l1 (n : Nat) (hn : 2 ≤ n) (hn8 : n ≤ 8) (a2 : Int) (a3 : Bool) (w : Int → Bool) (j : Int) (mine : Bool) (r : List Bool)
    (h : Ev (fun k => spec_gaPlaces.l0 k (n : Int) a2 a3 (row n fun x => nextOf n w mine x false true 0 (n - 1)) (wrap64 (j + 1))) r) :
    ∀ d x : Nat, x + d = n → Ev (fun k => spec_gaPlaces.l1 k (n : Int) a2 a3 (row n w) j mine (row x (fun x => nextOf n w mine x false true 0 (n - 1)) ++ List.replicate d false) (x : Int)) r := by
  intro d
  induction d with
  | zero =>
    intro x hx
    obtain rfl : x = n := by omega
    refine Ev.step (fun k => by rw [spec_gaPlaces.l1]) ?_
    refine Ev.no (by omega) ?_
    rw [List.replicate_zero, List.append_nil]
    exact h
  | succ d ih =>
    intro x hx
    refine Ev.step (fun k => by rw [spec_gaPlaces.l1]) ?_
    refine Ev.yes (by omega) ?_
    refine gaPlaces_l2 n hn hn8 a2 a3 w j mine _ (by simp [row_length]; omega) x (by omega) r (n - 1) 0 (by omega) false true ?_
    have e : (row x (fun x => nextOf n w mine x false true 0 (n - 1)) ++ List.replicate (d + 1) false).set x (nextOf n w mine (x : Nat) false true 0 (n - 1)) = row (x + 1) (fun x => nextOf n w mine x false true 0 (n - 1)) ++ List.replicate d false := by
      rw [List.set_append_right _ _ (by rw [row_length]; omega), row_length, Nat.sub_self, List.replicate_succ, List.set_cons_zero]
      simp [row, List.range_succ]
    rw [e]
    exact ih (x + 1) (by omega)
def flipN (b : Bool) (d : Nat) : Bool := b == (d % 2 == 0)
theorem flipN_succ (b : Bool) (d : Nat) : flipN b (d + 1) = !flipN b d := by
  unfold flipN
  rcases Nat.mod_two_eq_zero_or_one d with h | h
  · have : (d + 1) % 2 = 1 := by omega
    rw [h, this]; cases b <;> rfl
  · have : (d + 1) % 2 = 0 := by omega
    rw [h, this]; cases b <;> rfl
theorem gaPlaces_l0 (n : Nat) (goal : Int) (hn : 2 ≤ n) (hn8 : n ≤ 8) (moves : Nat) (hm : moves ≤ 8) (first : Bool) : ∀ d i : Nat, i + d = moves →
    Ev (fun k => spec_gaPlaces.l0 k (n : Int) (moves : Int) first (row n (pl n goal i (flipN first d))) ((i + 1 : Nat) : Int)) (row n (pl n goal moves first)) := by
  intro d
  induction d with
  | zero =>
    intro i hi
    obtain rfl : i = moves := by omega
    refine Ev.step (fun k => by rw [spec_gaPlaces.l0]) ?_
    refine Ev.no (by omega) (Ev.ret ?_)
    have : flipN first 0 = first := by cases first <;> rfl
    rw [this]
  | succ d ih =>
    intro i hi
    refine Ev.step (fun k => by rw [spec_gaPlaces.l0]) ?_
    refine Ev.yes (by omega) (Ev.yes (by omega) (Ev.yes (by omega) ?_))
    rw [w64 (show -9223372036854775808 ≤ (moves : Int) - ((i + 1 : Nat) : Int) by omega) (by omega)]
    have e : (moves : Int) - ((i + 1 : Nat) : Int) = (d : Nat) := by omega
    have e2 : (first == (((d : Nat) : Int).tmod 2 == 0)) = flipN first d := by
      unfold flipN
      have : ((d : Nat) : Int).tmod 2 = ((d % 2 : Nat) : Int) := by rw [Int.tmod_eq_emod_of_nonneg (by omega)]; omega
      rw [this]
      rcases Nat.mod_two_eq_zero_or_one d with h | h <;> rw [h] <;> rfl
    rw [e, e2, Int.toNat_natCast]
    have := gaPlaces_l1 n hn hn8 (moves : Int) first (pl n goal i (flipN first (d + 1))) ((i + 1 : Nat) : Int) (flipN first d) (row n (pl n goal moves first)) ?_ n 0 (by omega)
    · simpa [row] using this
    · rw [w64i (show i + 1 < 10 by omega) (by omega)]
      have e3 : (fun x => nextOf n (pl n goal i (flipN first (d + 1))) (flipN first d) x false true 0 (n - 1)) = pl n goal (i + 1) (flipN first d) := by
        funext x
        rw [pl_succ, flipN_succ]
        unfold nextOf plFrom
        cases flipN first d <;> simp
      rw [e3]
      exact ih (i + 1) (by omega)
theorem gaPlaces_ev (n : Nat) (goal : Nat) (hn : 2 ≤ n) (hn8 : n ≤ 8) (hg : goal < n) (moves : Nat) (hm : moves ≤ 8) (first : Bool) :
    Ev (fun k => spec_gaPlaces.f k (n : Int) (goal : Int) (moves : Int) first) (row n (pl n goal moves first)) := by
  unfold spec_gaPlaces.f
  refine Ev.yes (by omega) (Ev.yes (by omega) (Ev.known rfl (Ev.yes (by omega) (Ev.yes (by simp; omega) ?_))))
  have e : (List.replicate (n : Int).toNat false).set (goal : Int).toNat true = row n (pl n goal 0 (flipN first moves)) := by
    rw [Int.toNat_natCast, Int.toNat_natCast]
    apply List.ext_getElem
    · simp [row_length]
    · intro y h1 h2
      simp only [row, List.getElem_map, List.getElem_range, pl, List.getElem_set, List.getElem_replicate]
      by_cases hc : goal = y
      · subst hc; simp
      · rw [if_neg hc]; symm; simp; omega
  rw [e]
  exact gaPlaces_l0 n goal hn hn8 moves hm first moves 0 (by omega)
end Go.Proofs.Ytlmlamkbedfmhaa.P
end
section
set_option linter.unusedVariables false
set_option linter.unusedSimpArgs false
namespace Go.Proofs.Ytlmlamkbedfmhaa.P
open Go.RowKit Go.Proofs.YtlmlamkbedfmhaaW.PrintWords Go.Proofs.YtlmlamkbedfmhaaW.PrintLast Go.Proofs.YtlmlamkbedfmhaaW.PrintMore

def placeOk (n x goal moves : Int) : Bool := decide (2 ≤ n ∧ n ≤ 8 ∧ 0 ≤ x ∧ x ≤ n - 1 ∧ 0 ≤ goal ∧ goal ≤ n - 1 ∧ 0 ≤ moves ∧ moves ≤ 8)
theorem isPlacing_eq (n x goal moves : Int) : impl_isPlacing.f n x goal moves = some (placeOk n x goal moves) := by
  unfold impl_isPlacing.f impl_isWires.f placeOk
  simp only [impl_between_eq, Option.bind_some]
  by_cases h : 2 ≤ n ∧ n ≤ 8
  · rw [w64 (by omega) (by omega), if_pos (by simp; omega)]
    by_cases h1 : 0 ≤ x ∧ x ≤ n - 1
    · rw [if_pos (by simp; omega)]
      by_cases h2 : 0 ≤ goal ∧ goal ≤ n - 1
      · rw [if_pos (by simp; omega)]
        congr 1; simp only [decide_eq_decide]; omega
      · rw [if_neg (by simp; omega)]; congr 1; symm; rw [decide_eq_false_iff_not]; omega
    · rw [if_neg (by simp; omega)]; congr 1; symm; rw [decide_eq_false_iff_not]; omega
  · rw [if_neg (by simp; omega)]; congr 1; symm; rw [decide_eq_false_iff_not]; omega
theorem gaPlacing_eq (n goal moves : Int) : spec_gaPlacing.f n goal moves = some (decide (2 ≤ n ∧ n ≤ 8 ∧ 0 ≤ goal ∧ goal ≤ n - 1 ∧ 0 ≤ moves ∧ moves ≤ 8)) := by
  unfold spec_gaPlacing.f
  simp only [spec_l1In_eq, Option.bind_some]
  by_cases h : 2 ≤ n ∧ n ≤ 8
  · rw [w64 (by omega) (by omega), if_pos (by simp; omega)]
    by_cases h2 : 0 ≤ goal ∧ goal ≤ n - 1
    · rw [if_pos (by simp; omega)]
      congr 1; simp only [decide_eq_decide]; omega
    · rw [if_neg (by simp; omega)]; congr 1; symm; rw [decide_eq_false_iff_not]; omega
  · rw [if_neg (by simp; omega)]; congr 1; symm; rw [decide_eq_false_iff_not]; omega
def placeWinner (n x goal moves : Int) : Bool × Bool := if placeOk n x goal moves = true then (pl n.toNat goal moves.toNat true x, true) else (false, false)
def goodPlaces (n x goal moves : Int) : List Int := ((List.range' 0 (n.toNat - 1)).filter fun r => decide (0 < moves) && pl n.toNat goal (moves.toNat - 1) false (over x (r : Nat))).map fun r => ((r : Nat) : Int)
def placesWon (n goal moves : Int) : List Int := ((List.range' 0 n.toNat).filter fun r => pl n.toNat goal moves.toNat true ((r : Nat) : Int)).map fun r => ((r : Nat) : Int)
/-- The good rungs, if the game is one. -/
def goodIf (n x goal moves : Int) : List Int × Bool := if placeOk n x goal moves = true then (goodPlaces n x goal moves, true) else ([], false)
def wonIf (n goal moves : Int) : List Int × Bool := if placeOk n 0 goal moves = true then (placesWon n goal moves, true) else ([], false)
theorem placeOk_nat {n x goal moves : Int} (h : placeOk n x goal moves = true) : ∃ a b c d : Nat, n = a ∧ x = b ∧ goal = c ∧ moves = d ∧ 2 ≤ a ∧ a ≤ 8 ∧ b < a ∧ c < a ∧ d ≤ 8 := by
  simp [placeOk] at h
  exact ⟨n.toNat, x.toNat, goal.toNat, moves.toNat, by omega, by omega, by omega, by omega, by omega, by omega, by omega, by omega, by omega⟩
theorem implPlaceWinner_ev (n x goal moves : Int) : Ev (fun k => impl_PlaceWinner.f k n x goal moves) (placeWinner n x goal moves) := by
  unfold impl_PlaceWinner.f placeWinner
  refine Ev.known (isPlacing_eq _ _ _ _) ?_
  by_cases h : placeOk n x goal moves = true
  · rw [if_pos h]
    obtain ⟨a, b, c, d, rfl, rfl, rfl, rfl, h1, h2, h3, h4, h5⟩ := placeOk_nat h
    exact Ev.yes h (Ev.bind (placeWins_ev a c h1 h2 d h5 true b) (Ev.ret (by simp)))
  · rw [if_neg h]; exact Ev.no h (Ev.ret rfl)
theorem specPlaceWinner_ev (n x goal moves : Int) : Ev (fun k => spec_PlaceWinner.f k n x goal moves) (placeWinner n x goal moves) := by
  unfold spec_PlaceWinner.f placeWinner
  refine Ev.known (gaPlacing_eq _ _ _) ?_
  by_cases h : placeOk n x goal moves = true
  · rw [if_pos h]
    obtain ⟨a, b, c, d, rfl, rfl, rfl, rfl, h1, h2, h3, h4, h5⟩ := placeOk_nat h
    refine Ev.yes (by simp; omega) ?_
    rw [w64 (by omega) (by omega)]
    refine Ev.known (spec_l1In_eq _ _ _) (Ev.yes (by simp; omega) ?_)
    refine Ev.bind (gaPlaces_ev a c h1 h2 h4 d h5 true) ?_
    have := row_length a (pl a c d true)
    refine Ev.yes (by omega) (Ev.yes (by omega) (Ev.ret ?_))
    rw [row_at (by omega) (by omega)]; simp
  · rw [if_neg h]
    by_cases g : 2 ≤ n ∧ n ≤ 8 ∧ 0 ≤ goal ∧ goal ≤ n - 1 ∧ 0 ≤ moves ∧ moves ≤ 8
    · refine Ev.yes (by simp; omega) ?_
      rw [w64 (by omega) (by omega)]
      refine Ev.known (spec_l1In_eq _ _ _) (Ev.no ?_ (Ev.ret rfl))
      simp [placeOk] at h ⊢; omega
    · exact Ev.no (by simp; omega) (Ev.ret rfl)
/-- A list that grows by those that are kept. -/
theorem grow_yes {p : Nat → Bool} {i d : Nat} {acc : List Int} (h : p i = true) : (acc ++ [((i : Nat) : Int)]) ++ ((List.range' (i + 1) d).filter p).map (fun r => ((r : Nat) : Int)) = acc ++ ((List.range' i (d + 1)).filter p).map (fun r => ((r : Nat) : Int)) := by
  rw [List.range'_succ, List.filter_cons_of_pos h, List.map_cons, List.append_assoc]; rfl
theorem grow_no {p : Nat → Bool} {i d : Nat} {acc : List Int} (h : ¬ p i = true) : acc ++ ((List.range' (i + 1) d).filter p).map (fun r => ((r : Nat) : Int)) = acc ++ ((List.range' i (d + 1)).filter p).map (fun r => ((r : Nat) : Int)) := by
  rw [List.range'_succ, List.filter_cons_of_neg h]
theorem implGood_loop (a b c d : Nat) (h1 : 2 ≤ a) (h2 : a ≤ 8) (h3 : b < a) (h4 : c < a) (h5 : d ≤ 8) : ∀ q i : Nat, i + q = a - 1 → ∀ acc : List Int, acc.length ≤ i →
    Ev (fun k => impl_GoodPlaces.l0 k (a : Int) (b : Int) (c : Int) (d : Int) acc ((a - 1 : Nat) : Int) (i : Int)) (acc ++ ((List.range' i q).filter fun r => decide ((0 : Int) < d) && pl a c (d - 1) false (over b (r : Nat))).map (fun r => ((r : Nat) : Int)), true) := by
  intro q
  induction q with
  | zero =>
    intro i hi acc ha
    refine Ev.step (fun k => by rw [impl_GoodPlaces.l0]) ?_
    exact Ev.no (by omega) (Ev.ret (by simp))
  | succ q ih =>
    intro i hi acc ha
    refine Ev.step (fun k => by rw [impl_GoodPlaces.l0]) ?_
    refine Ev.yes (by omega) ?_
    rw [w64i (show i < a by omega) (by omega)]
    by_cases hd : (d : Int) > 0
    · refine Ev.yes hd (Ev.known (impl_over_eq (by omega) (by omega)) ?_)
      rw [w64 (by omega) (by omega)]
      have e : (d : Int) - 1 = ((d - 1 : Nat) : Int) := by omega
      rw [e]
      refine Ev.bind (placeWins_ev a c h1 h2 (d - 1) (by omega) false _) ?_
      by_cases hp : pl a c (d - 1) false (over b (i : Nat)) = true
      · refine Ev.yes hp (Ev.yes (by omega) (Ev.eq (ih (i + 1) (by omega) _ (by simp; omega)) ?_))
        rw [grow_yes (by simp [hp]; omega)]
      · refine Ev.no hp (Ev.eq (ih (i + 1) (by omega) _ (by omega)) ?_)
        rw [grow_no (by simp [hp])]
    · refine Ev.no hd (Ev.eq (ih (i + 1) (by omega) _ (by omega)) ?_)
      rw [grow_no (by simp; omega)]
theorem implGood_ev (n x goal moves : Int) : Ev (fun k => impl_GoodPlaces.f k n x goal moves) (goodIf n x goal moves) := by
  unfold impl_GoodPlaces.f goodIf
  refine Ev.known (isPlacing_eq _ _ _ _) ?_
  by_cases h : placeOk n x goal moves = true
  · rw [if_pos h]
    obtain ⟨a, b, c, d, rfl, rfl, rfl, rfl, h1, h2, h3, h4, h5⟩ := placeOk_nat h
    refine Ev.yes h ?_
    rw [w64 (by omega) (by omega)]
    have e : (a : Int) - 1 = ((a - 1 : Nat) : Int) := by omega
    rw [e]
    refine Ev.eq (implGood_loop a b c d h1 h2 h3 h4 h5 (a - 1) 0 (by omega) [] (by simp)) ?_
    simp [goodPlaces]
  · rw [if_neg h]; exact Ev.no h (Ev.ret rfl)
theorem specGood_loop (a b c d : Nat) (h1 : 2 ≤ a) (h2 : a ≤ 8) (h3 : b < a) (h4 : c < a) (w : Int → Bool) : ∀ q i : Nat, i + q = a - 1 → ∀ acc : List Int, acc.length ≤ i →
    Ev (fun k => spec_GoodPlaces.l0 k (a : Int) (b : Int) acc (row a w) (i : Int)) (acc ++ ((List.range' i q).filter fun r => w (over b (r : Nat))).map (fun r => ((r : Nat) : Int)), true) := by
  intro q
  induction q with
  | zero =>
    intro i hi acc ha
    refine Ev.step (fun k => by rw [spec_GoodPlaces.l0]) ?_
    rw [w64 (by omega) (by omega)]
    exact Ev.no (by omega) (Ev.ret (by simp))
  | succ q ih =>
    intro i hi acc ha
    refine Ev.step (fun k => by rw [spec_GoodPlaces.l0]) ?_
    rw [w64 (show -9223372036854775808 ≤ (a : Int) - 1 by omega) (by omega)]
    refine Ev.yes (by omega) (Ev.known (spec_laOver_eq (by omega) (by omega)) ?_)
    rw [w64i (show i < a by omega) (by omega)]
    have ob := over_bound (n := a) (x := (b : Nat)) (r := (i : Nat)) (by omega) (by omega) (by omega) (by omega)
    have len := row_length a w
    refine Ev.yes ob.1 (Ev.yes (by omega) ?_)
    rw [row_at ob.1 ob.2]
    by_cases hp : w (over b (i : Nat)) = true
    · refine Ev.yes hp (Ev.yes (by omega) (Ev.eq (ih (i + 1) (by omega) _ (by simp; omega)) ?_))
      rw [grow_yes hp]
    · refine Ev.no hp (Ev.eq (ih (i + 1) (by omega) _ (by omega)) ?_)
      rw [grow_no hp]
theorem specGood_ev (n x goal moves : Int) : Ev (fun k => spec_GoodPlaces.f k n x goal moves) (goodIf n x goal moves) := by
  unfold spec_GoodPlaces.f goodIf
  refine Ev.known (gaPlacing_eq _ _ _) ?_
  by_cases h : placeOk n x goal moves = true
  · rw [if_pos h]
    obtain ⟨a, b, c, d, rfl, rfl, rfl, rfl, h1, h2, h3, h4, h5⟩ := placeOk_nat h
    refine Ev.yes (by simp; omega) ?_
    rw [w64 (by omega) (by omega)]
    refine Ev.known (spec_l1In_eq _ _ _) ?_
    refine Ev.step (fun k => by rw [spec_GoodPlaces.j0]) ?_
    refine Ev.no (by simp; omega) ?_
    by_cases hd : (d : Int) > 0
    · refine Ev.yes hd ?_
      rw [w64 (by omega) (by omega)]
      have e : (d : Int) - 1 = ((d - 1 : Nat) : Int) := by omega
      rw [e]
      refine Ev.bind (gaPlaces_ev a c h1 h2 h4 (d - 1) (by omega) false) ?_
      refine Ev.eq (specGood_loop a b c d h1 h2 h3 h4 _ (a - 1) 0 (by omega) [] (by simp)) ?_
      have : 0 < d := by omega
      simp [goodPlaces, this]
    · refine Ev.no hd (Ev.ret ?_)
      have : d = 0 := by omega
      simp [goodPlaces, this]
  · rw [if_neg h]
    by_cases g : 2 ≤ n ∧ n ≤ 8 ∧ 0 ≤ goal ∧ goal ≤ n - 1 ∧ 0 ≤ moves ∧ moves ≤ 8
    · refine Ev.yes (by simp; omega) ?_
      rw [w64 (by omega) (by omega)]
      refine Ev.known (spec_l1In_eq _ _ _) ?_
      refine Ev.step (fun k => by rw [spec_GoodPlaces.j0]) ?_
      refine Ev.yes ?_ (Ev.ret rfl)
      simp [placeOk] at h ⊢; omega
    · refine Ev.no (by simp; omega) ?_
      refine Ev.step (fun k => by rw [spec_GoodPlaces.j0]) ?_
      exact Ev.yes rfl (Ev.ret rfl)
theorem implWon_loop (a c d : Nat) (h1 : 2 ≤ a) (h2 : a ≤ 8) (h5 : d ≤ 8) : ∀ q i : Nat, i + q = a → ∀ acc : List Int, acc.length ≤ i →
    Ev (fun k => impl_PlacesWon.l0 k (a : Int) (c : Int) (d : Int) acc (a : Int) (i : Int)) (acc ++ ((List.range' i q).filter fun r => pl a c d true ((r : Nat) : Int)).map (fun r => ((r : Nat) : Int)), true) := by
  intro q
  induction q with
  | zero =>
    intro i hi acc ha
    refine Ev.step (fun k => by rw [impl_PlacesWon.l0]) ?_
    exact Ev.no (by omega) (Ev.ret (by simp))
  | succ q ih =>
    intro i hi acc ha
    refine Ev.step (fun k => by rw [impl_PlacesWon.l0]) ?_
    refine Ev.yes (by omega) ?_
    rw [w64i (show i < a by omega) (by omega)]
    refine Ev.bind (placeWins_ev a c h1 h2 d h5 true _) ?_
    by_cases hp : pl a c d true ((i : Nat) : Int) = true
    · refine Ev.yes hp (Ev.yes (by omega) (Ev.eq (ih (i + 1) (by omega) _ (by simp; omega)) ?_))
      rw [grow_yes hp]
    · refine Ev.no hp (Ev.eq (ih (i + 1) (by omega) _ (by omega)) ?_)
      rw [grow_no hp]
theorem implWon_ev (n goal moves : Int) : Ev (fun k => impl_PlacesWon.f k n goal moves) (wonIf n goal moves) := by
  unfold impl_PlacesWon.f wonIf
  refine Ev.known (isPlacing_eq _ _ _ _) ?_
  by_cases h : placeOk n 0 goal moves = true
  · rw [if_pos h]
    obtain ⟨a, b, c, d, rfl, hb, rfl, rfl, h1, h2, h3, h4, h5⟩ := placeOk_nat h
    refine Ev.yes h (Ev.eq (implWon_loop a c d h1 h2 h5 a 0 (by omega) [] (by simp)) ?_)
    simp [placesWon]
  · rw [if_neg h]; exact Ev.no h (Ev.ret rfl)
theorem specWon_loop (a : Nat) (h2 : a ≤ 8) (w : Int → Bool) : ∀ q i : Nat, i + q = a → ∀ acc : List Int, acc.length ≤ i →
    Ev (fun k => spec_PlacesWon.l0 k acc (row a w) (a : Int) (i : Int)) (acc ++ ((List.range' i q).filter fun r => w ((r : Nat) : Int)).map (fun r => ((r : Nat) : Int)), true) := by
  intro q
  induction q with
  | zero =>
    intro i hi acc ha
    refine Ev.step (fun k => by rw [spec_PlacesWon.l0]) ?_
    exact Ev.no (by omega) (Ev.ret (by simp))
  | succ q ih =>
    intro i hi acc ha
    refine Ev.step (fun k => by rw [spec_PlacesWon.l0]) ?_
    rw [w64i (show i < a by omega) (by omega)]
    have len := row_length a w
    refine Ev.yes (by omega) (Ev.yes (by omega) (Ev.yes (by omega) ?_))
    rw [row_at (by omega) (by omega)]
    by_cases hp : w ((i : Nat) : Int) = true
    · refine Ev.yes hp (Ev.yes (by omega) (Ev.eq (ih (i + 1) (by omega) _ (by simp; omega)) ?_))
      rw [grow_yes hp]
    · refine Ev.no hp (Ev.eq (ih (i + 1) (by omega) _ (by omega)) ?_)
      rw [grow_no hp]
theorem specWon_ev (n goal moves : Int) : Ev (fun k => spec_PlacesWon.f k n goal moves) (wonIf n goal moves) := by
  unfold spec_PlacesWon.f wonIf
  refine Ev.known (gaPlacing_eq _ _ _) ?_
  by_cases h : placeOk n 0 goal moves = true
  · rw [if_pos h]
    obtain ⟨a, b, c, d, rfl, hb, rfl, rfl, h1, h2, h3, h4, h5⟩ := placeOk_nat h
    refine Ev.yes (by simp; omega) (Ev.bind (gaPlaces_ev a c h1 h2 h4 d h5 true) ?_)
    have len := row_length a (pl a c d true)
    rw [len]
    refine Ev.eq (specWon_loop a h2 _ a 0 (by omega) [] (by simp)) ?_
    simp [placesWon]
  · rw [if_neg h]
    refine Ev.no ?_ (Ev.ret rfl)
    simp [placeOk] at h ⊢; omega
end Go.Proofs.Ytlmlamkbedfmhaa.P
end
section
set_option linter.unusedVariables false
set_option linter.unusedSimpArgs false
namespace Go.Proofs.Ytlmlamkbedfmhaa.P

/-- How many pairs stand the wrong way round. -/
def inv : List Int → Nat
  | [] => 0
  | a :: t => t.countP (fun y => decide (y < a)) + inv t
/-- a stands before b. -/
def bef (a b : Int) : List Int → Bool
  | [] => false
  | x :: t => if x = a then decide (b ∈ t) else bef a b t
theorem bef_mem {a b : Int} {p : List Int} : bef a b p = true → a ∈ p ∧ b ∈ p := by
  induction p with
  | nil => simp [bef]
  | cons x t ih =>
    unfold bef
    by_cases h : x = a
    · rw [if_pos h]; intro g; simp at g; exact ⟨by simp [h], by simp [g]⟩
    · rw [if_neg h]; intro g; have := ih g; simp [this]
theorem over_over (x r : Int) : over (over x r) r = x := by
  unfold over; (repeat' split) <;> omega
theorem count_over1 {r : Int} {t : List Int} (hn : t.Nodup) (hr : r ∉ t) : t.countP (fun y => decide (over y r < r + 1)) = t.countP (fun y => decide (y < r)) + (decide (r + 1 ∈ t)).toNat := by
  induction t with
  | nil => simp
  | cons y t ih =>
    rw [List.nodup_cons] at hn
    have h1 : y ≠ r := fun h => hr (by simp [h])
    have h2 : r ∉ t := fun h => hr (by simp [h])
    have ih := ih hn.2 h2
    rw [List.countP_cons, List.countP_cons, ih]
    by_cases h : y = r + 1
    · subst h
      have e : over (r + 1) r < r + 1 := by unfold over; split <;> omega
      have e2 : ¬ r + 1 < r := by omega
      simp [e, e2, hn.1]
    · have e : over y r = y := by unfold over; rw [if_neg h1, if_neg h]
      have e2 : (y < r + 1) ↔ (y < r) := by omega
      have e3 : (r + 1 ∈ y :: t) ↔ (r + 1 ∈ t) := by simp; intro g; exact absurd g.symm h
      simp only [e, e2, e3]; omega
theorem count_over2 {r : Int} {t : List Int} (hn : t.Nodup) : t.countP (fun y => decide (y < r + 1)) = t.countP (fun y => decide (y < r)) + (decide (r ∈ t)).toNat := by
  induction t with
  | nil => simp
  | cons y t ih =>
    rw [List.nodup_cons] at hn
    have ih := ih hn.2
    rw [List.countP_cons, List.countP_cons, ih]
    by_cases h : y = r
    · subst h
      have e : y < y + 1 := by omega
      simp [e, hn.1]
    · have e2 : (y < r + 1) ↔ (y < r) := by omega
      have e3 : (r ∈ y :: t) ↔ (r ∈ t) := by simp; intro g; exact absurd g.symm h
      simp only [e2, e3]; omega
theorem bef_no {a b : Int} {p : List Int} (h : a ∉ p ∨ b ∉ p) : bef a b p = false := by
  cases e : bef a b p
  · rfl
  · have := bef_mem e; rcases h with h | h <;> simp_all
theorem inv_over {r : Int} {p : List Int} (hn : p.Nodup) : inv (p.map fun x => over x r) + (bef (r + 1) r p).toNat = inv p + (bef r (r + 1) p).toNat := by
  induction p with
  | nil => rfl
  | cons a t ih =>
    rw [List.nodup_cons] at hn
    have ih := ih hn.2
    rw [List.map_cons, inv, inv, List.countP_map]
    by_cases h1 : a = r
    · subst h1
      have e1 : over a a = a + 1 := by unfold over; rw [if_pos rfl]
      have e2 := count_over1 hn.2 hn.1
      have b1 : bef a (a + 1) (a :: t) = decide (a + 1 ∈ t) := by unfold bef; rw [if_pos rfl]
      have b2 : bef (a + 1) a (a :: t) = false := by
        unfold bef; rw [if_neg (by omega)]; exact bef_no (.inr hn.1)
      have b3 : bef a (a + 1) t = false := bef_no (.inl hn.1)
      have b4 : bef (a + 1) a t = false := bef_no (.inr hn.1)
      rw [b3, b4] at ih
      rw [b1, b2, e1]
      have e3 : (t.countP ((fun y => decide (y < a + 1)) ∘ fun x => over x a)) = t.countP (fun y => decide (over y a < a + 1)) := rfl
      rw [e3, e2]
      simp at ih ⊢; omega
    · by_cases h2 : a = r + 1
      · subst h2
        have e1 : over (r + 1) r = r := by unfold over; rw [if_neg (by omega), if_pos rfl]
        have e2 := count_over2 (r := r) hn.2
        have e3 : (t.countP ((fun y => decide (y < r)) ∘ fun x => over x r)) = t.countP (fun y => decide (y < r)) := by
          apply List.countP_congr
          intro y _
          simp only [Function.comp, decide_eq_true_eq]
          unfold over; split
          · omega
          · split <;> omega
        have b1 : bef (r + 1) r ((r + 1) :: t) = decide (r ∈ t) := by unfold bef; rw [if_pos rfl]
        have b2 : bef r (r + 1) ((r + 1) :: t) = false := by
          unfold bef; rw [if_neg (by omega)]; exact bef_no (.inr hn.1)
        have b3 : bef r (r + 1) t = false := bef_no (.inr hn.1)
        have b4 : bef (r + 1) r t = false := bef_no (.inl hn.1)
        rw [b3, b4] at ih
        rw [b1, b2, e1, e3, e2]
        simp at ih ⊢; omega
      · have e1 : over a r = a := by unfold over; rw [if_neg h1, if_neg h2]
        have e3 : (t.countP ((fun y => decide (y < a)) ∘ fun x => over x r)) = t.countP (fun y => decide (y < a)) := by
          apply List.countP_congr
          intro y _
          simp only [Function.comp, decide_eq_true_eq]
          unfold over; split
          · omega
          · split <;> omega
        have b1 : bef (r + 1) r (a :: t) = bef (r + 1) r t := by rw [bef, if_neg h2]
        have b2 : bef r (r + 1) (a :: t) = bef r (r + 1) t := by rw [bef, if_neg h1]
        rw [b1, b2, e1, e3]; omega
theorem inv_le (p : List Int) : 2 * inv p + p.length ≤ p.length * p.length := by
  induction p with
  | nil => simp [inv]
  | cons a t ih =>
    have h := List.countP_le_length (p := fun y => decide (y < a)) (l := t)
    rw [inv, List.length_cons]
    have e : (t.length + 1) * (t.length + 1) = t.length * t.length + 2 * t.length + 1 := by rw [Nat.add_mul, Nat.mul_add]; omega
    omega
theorem bef_iff {a b : Int} {p : List Int} (hn : p.Nodup) : bef a b p = true ↔ a ∈ p ∧ b ∈ p ∧ p.idxOf a < p.idxOf b := by
  induction p with
  | nil => simp [bef]
  | cons x t ih =>
    rw [List.nodup_cons] at hn
    have ih := ih hn.2
    rw [bef, List.idxOf_cons, List.idxOf_cons]
    by_cases h : x = a
    · subst h
      rw [if_pos rfl]
      by_cases g : x = b
      · subst g; simp [hn.1]
      · have : (x == b) = false := by simp [g]
        have g2 : ¬ b = x := fun z => g z.symm
        simp [this, g2]
    · rw [if_neg h, ih]
      have e : (x == a) = false := by simp [h]
      have h2 : ¬ a = x := fun z => h z.symm
      by_cases g : x = b
      · subst g
        simp only [e, beq_self_eq_true, cond_true, cond_false, Nat.not_lt_zero, and_false, iff_false]
        intro z; exact hn.1 z.2.1
      · have e2 : (x == b) = false := by simp [g]
        have g2 : ¬ b = x := fun z => g z.symm
        simp only [e, e2, cond_false, List.mem_cons, h2, g2, false_or]
        constructor
        · intro z; exact ⟨z.1, z.2.1, by omega⟩
        · intro z; exact ⟨z.1, z.2.1, by omega⟩
theorem idx_ne {a b : Int} {p : List Int} (ha : a ∈ p) (hb : b ∈ p) (h : a ≠ b) : p.idxOf a ≠ p.idxOf b := by
  intro e
  have h1 := List.getElem_idxOf (List.idxOf_lt_length_of_mem ha)
  have h2 := List.getElem_idxOf (List.idxOf_lt_length_of_mem hb)
  apply h
  rw [← h1, ← h2]
  congr 1
theorem inv_all {p : List Int} (hn : p.Nodup) (h : ∀ u v : Int, u ∈ p → v ∈ p → u < v → bef v u p = true) : 2 * inv p + p.length = p.length * p.length := by
  induction p with
  | nil => simp [inv]
  | cons a t ih =>
    have hn' := hn
    rw [List.nodup_cons] at hn
    have below : ∀ y ∈ t, y < a := by
      intro y hy
      have hya : y ≠ a := fun z => hn.1 (z ▸ hy)
      by_cases g : a < y
      · have := h a y (by simp) (by simp [hy]) g
        rw [bef, if_neg (fun z => hya z.symm)] at this
        exact absurd (bef_mem this).2 hn.1
      · omega
    have c : t.countP (fun y => decide (y < a)) = t.length := by
      rw [List.countP_eq_length]; intro y hy; simp [below y hy]
    have ih := ih hn.2 (by
      intro u v hu hv huv
      have := h u v (by simp [hu]) (by simp [hv]) huv
      rwa [bef, if_neg (fun z : a = v => hn.1 (z ▸ hv))] at this)
    rw [inv, List.length_cons, c]
    have e : (t.length + 1) * (t.length + 1) = t.length * t.length + 2 * t.length + 1 := by rw [Nat.add_mul, Nat.mul_add]; omega
    omega
/-- An order of n wires. -/
def isP (n : Nat) (p : List Int) : Prop := p.length = n ∧ p.Nodup ∧ ∀ v, v ∈ p ↔ 0 ≤ v ∧ v < n
theorem isP_over {n : Nat} {p : List Int} {r : Int} (h : isP n p) (h0 : 0 ≤ r) (h1 : r + 1 < n) : isP n (p.map fun x => over x r) := by
  refine ⟨by simp [h.1], ?_, ?_⟩
  · refine List.Pairwise.map _ ?_ h.2.1
    intro a b hab e
    apply hab
    rw [← over_over a r, ← over_over b r, e]
  · intro v
    rw [List.mem_map]
    constructor
    · rintro ⟨y, hy, rfl⟩
      have := (h.2.2 y).1 hy
      exact over_bound this.1 this.2 h0 h1
    · intro hv
      exact ⟨over v r, (h.2.2 _).2 (over_bound hv.1 hv.2 h0 h1), over_over v r⟩
theorem worst {n : Nat} {p : List Int} (h : isP n p) (H : ∀ r : Int, 0 ≤ r → r + 1 < n → bef r (r + 1) p = false) : 2 * inv p + n = n * n := by
  have key : ∀ d : Nat, ∀ u : Int, 0 ≤ u → u + d + 1 < n → p.idxOf (u + d + 1) < p.idxOf u := by
    intro d
    induction d with
    | zero =>
      intro u h0 h1
      have m1 : u ∈ p := (h.2.2 u).2 ⟨h0, by omega⟩
      have m2 : u + 1 ∈ p := (h.2.2 _).2 ⟨by omega, by omega⟩
      have a := H u h0 (by omega)
      have b : ¬ p.idxOf u < p.idxOf (u + 1) := by
        intro z
        have := (bef_iff h.2.1).2 ⟨m1, m2, z⟩
        rw [a] at this; cases this
      have c := idx_ne m1 m2 (by omega)
      have e : u + ((0 : Nat) : Int) + 1 = u + 1 := by omega
      rw [e]; omega
    | succ d ih =>
      intro u h0 h1
      have a := ih (u + 1) (by omega) (by omega)
      have m1 : u ∈ p := (h.2.2 u).2 ⟨h0, by omega⟩
      have m2 : u + 1 ∈ p := (h.2.2 _).2 ⟨by omega, by omega⟩
      have b0 := H u h0 (by omega)
      have b : ¬ p.idxOf u < p.idxOf (u + 1) := by
        intro z
        have := (bef_iff h.2.1).2 ⟨m1, m2, z⟩
        rw [b0] at this; cases this
      have e : u + ((d + 1 : Nat) : Int) + 1 = u + 1 + d + 1 := by omega
      rw [e]; omega
  have := inv_all h.2.1 (by
    intro u v hu hv huv
    refine (bef_iff h.2.1).2 ⟨hv, hu, ?_⟩
    have a := (h.2.2 u).1 hu
    have b := (h.2.2 v).1 hv
    have := key (v - u - 1).toNat u a.1 (by omega)
    have e : u + ((v - u - 1).toNat : Int) + 1 = v := by omega
    rwa [e] at this)
  rwa [h.1] at this
/-- Where everybody ends. -/
def ends (n : Nat) (l : List Int) : List Int := (List.range n).map fun x => l.foldl over ((x : Nat) : Int)
theorem ends_isP0 {n : Nat} : ∀ (l : List Int) (p : List Int), isP n p → (∀ r ∈ l, 0 ≤ r ∧ r + 1 < n) → isP n (p.map fun x => l.foldl over x) := by
  intro l
  induction l with
  | nil => intro p h _; simpa using h
  | cons r l ih =>
    intro p h hl
    have := ih (p.map fun x => over x r) (isP_over h (hl r (by simp)).1 (hl r (by simp)).2) (fun q hq => hl q (by simp [hq]))
    simpa [List.map_map, Function.comp_def] using this
theorem ends_isP {n : Nat} {l : List Int} (hl : ∀ r ∈ l, 0 ≤ r ∧ r + 1 < n) : isP n (ends n l) := by
  have h : isP n ((List.range n).map fun x => ((x : Nat) : Int)) := by
    refine ⟨by simp, ?_, ?_⟩
    · refine List.Pairwise.map _ ?_ (List.nodup_range (n := n))
      intro a b hab e; omega
    · intro v
      rw [List.mem_map]
      constructor
      · rintro ⟨y, hy, rfl⟩; rw [List.mem_range] at hy; omega
      · intro hv; exact ⟨v.toNat, by rw [List.mem_range]; omega, by omega⟩
  have := ends_isP0 l _ h hl
  simpa [ends, List.map_map, Function.comp_def] using this
theorem ends_snoc (n : Nat) (l : List Int) (r : Int) : ends n (l ++ [r]) = (ends n l).map fun x => over x r := by
  simp [ends, List.map_map, Function.comp_def, List.foldl_append]
end Go.Proofs.Ytlmlamkbedfmhaa.P
end
