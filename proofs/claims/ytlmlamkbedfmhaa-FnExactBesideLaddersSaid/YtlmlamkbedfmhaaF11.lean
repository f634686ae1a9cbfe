-- Printed by wip/gen.py (a program of this session's, over the kit's print program). Lean checks it.
import Derived.Test.YtlmlamkbedfmhaaFKinds
import Derived.Test.YtlmlamkbedfmhaaHWords
import Derived.Test.YtlmlamkbedfmhaaF90
import Derived.Test.YtlmlamkbedfmhaaF91
import Derived.Test.YtlmlamkbedfmhaaF92
namespace Go.Proofs.Ytlmlamkbedfmhaa.P
open Go.RowKit Go.Proofs.YtlmlamkbedfmhaaW.PrintWords Go.Proofs.YtlmlamkbedfmhaaW.PrintLast Go.Proofs.YtlmlamkbedfmhaaW.PrintMore
attribute [local go_sem] max2_int min2_int max_two min_two max_three min_three max_four min_four   -- for this text's walks alone
set_option linter.unusedVariables false
set_option linter.unusedSimpArgs false

/-! ### spec_BesideLadders: function 11 -/
mutual
def spec_BesideLadders.j0 : Nat → Bool → Int → List Int → Int → List Int → Option (Int × List Int × Bool)
  | 0, _, _, _, _, _ => none
  | k + 1, x16, x118000, x118001, x119000, x119001 => if x16 = true then (some (0, ([] : List Int), false)) else ((spec_l1Own.f x118001).bind fun t122 => (spec_BesideLadders.l0 k x119001 (x119001.length : Int) 0 x118000 x118001 (wrap64 (x118000 + x119000)) t122))
def spec_BesideLadders.l0 : Nat → List Int → Int → Int → Int → List Int → Int → List Int → Option (Int × List Int × Bool)
  | 0, _, _, _, _, _, _, _ => none
  | k + 1, x28, x29, x30, x118000, x118001, x126000, x126001 => if x30 < x29 then (if 0 ≤ x30 then (if x30 < (x28.length : Int) then (if x126001.length < 17592186044416 then (spec_BesideLadders.l0 k x28 x29 (wrap64 (x30 + 1)) x118000 x118001 x126000 (x126001 ++ [wrap64 (x118000 + (rd x28 x30))])) else (none)) else (none)) else (none)) else ((spec_laIf.f k x126000 x126001).bind fun bt130 => (some (bt130.1, bt130.2.1, bt130.2.2)))
end
def spec_BesideLadders.f (k : Nat) (a0_0 : Int) (l0_1 : List Int) (a1_0 : Int) (l1_1 : List Int) : Option (Int × List Int × Bool) := (spec_laGood.f k a0_0 l0_1).bind fun t120 => (if t120 = true then ((spec_laGood.f k a1_0 l1_1).bind fun t121 => (spec_BesideLadders.j0 k (!t121) a0_0 l0_1 a1_0 l1_1)) else (spec_BesideLadders.j0 k true a0_0 l0_1 a1_0 l1_1))
theorem spec_BesideLadders.mono_l : ∀ k, (∀ y0 y1 y2 y3 y4, LeO (spec_BesideLadders.j0 k y0 y1 y2 y3 y4) (spec_BesideLadders.j0 (k + 1) y0 y1 y2 y3 y4)) ∧ (∀ y0 y1 y2 y3 y4 y5 y6, LeO (spec_BesideLadders.l0 k y0 y1 y2 y3 y4 y5 y6) (spec_BesideLadders.l0 (k + 1) y0 y1 y2 y3 y4 y5 y6))
  | 0 => ⟨fun _ _ _ _ _ r h => by simp [spec_BesideLadders.j0] at h, fun _ _ _ _ _ _ _ r h => by simp [spec_BesideLadders.l0] at h⟩
  | k + 1 => by
    obtain ⟨ih0, ih1⟩ := spec_BesideLadders.mono_l k
    refine ⟨?_, ?_⟩
    · intro y0 y1 y2 y3 y4
      unfold spec_BesideLadders.j0
      repeat' first
      | (with_reducible exact ih0 _ _ _ _ _)
      | (with_reducible exact ih1 _ _ _ _ _ _ _)
      | (with_reducible exact spec_laGood.mono _ _ _)
      | (with_reducible exact spec_laIf.mono _ _ _)
      | (with_reducible exact LeO.refl _)
      | (with_reducible exact LeO.none _)
      | (with_reducible refine LeO.ite ?_ ?_)
      | (with_reducible refine LeO.bind ?_ (fun _ => ?_))
      | exact ih0 _ _ _ _ _
      | exact ih1 _ _ _ _ _ _ _
      | exact spec_laGood.mono _ _ _
      | exact spec_laIf.mono _ _ _
      | exact LeO.none _
      | refine LeO.ite ?_ ?_
      | refine LeO.bind ?_ (fun _ => ?_)
    · intro y0 y1 y2 y3 y4 y5 y6
      unfold spec_BesideLadders.l0
      repeat' first
      | (with_reducible exact ih0 _ _ _ _ _)
      | (with_reducible exact ih1 _ _ _ _ _ _ _)
      | (with_reducible exact spec_laGood.mono _ _ _)
      | (with_reducible exact spec_laIf.mono _ _ _)
      | (with_reducible exact LeO.refl _)
      | (with_reducible exact LeO.none _)
      | (with_reducible refine LeO.ite ?_ ?_)
      | (with_reducible refine LeO.bind ?_ (fun _ => ?_))
      | exact ih0 _ _ _ _ _
      | exact ih1 _ _ _ _ _ _ _
      | exact spec_laGood.mono _ _ _
      | exact spec_laIf.mono _ _ _
      | exact LeO.none _
      | refine LeO.ite ?_ ?_
      | refine LeO.bind ?_ (fun _ => ?_)
theorem spec_BesideLadders.mono : ∀ a0 a1 a2 a3 k, LeO (spec_BesideLadders.f k a0 a1 a2 a3) (spec_BesideLadders.f (k + 1) a0 a1 a2 a3) := by
  intro a0 a1 a2 a3 k
  obtain ⟨ih0, ih1⟩ := spec_BesideLadders.mono_l k
  unfold spec_BesideLadders.f
  repeat' first
      | (with_reducible exact ih0 _ _ _ _ _)
      | (with_reducible exact ih1 _ _ _ _ _ _ _)
      | (with_reducible exact spec_laGood.mono _ _ _)
      | (with_reducible exact spec_laIf.mono _ _ _)
      | (with_reducible exact LeO.refl _)
      | (with_reducible exact LeO.none _)
      | (with_reducible refine LeO.ite ?_ ?_)
      | (with_reducible refine LeO.bind ?_ (fun _ => ?_))
      | exact ih0 _ _ _ _ _
      | exact ih1 _ _ _ _ _ _ _
      | exact spec_laGood.mono _ _ _
      | exact spec_laIf.mono _ _ _
      | exact LeO.none _
      | refine LeO.ite ?_ ?_
      | refine LeO.bind ?_ (fun _ => ?_)
def spec_BesideLadders.T3 : Bool × List (List Nat × List Nat) := (true, [([], []), ([0], [0]), ([], []), ([2], [2]), ([1, 3], [1, 3]), ([], []), ([5], [5]), ([6], [6]), ([4, 7], [4, 7]), ([], []), ([9, 8, 7, 0, 1, 2, 3, 4, 5, 6, 7, 8, 9], [8, 9])])
def spec_BesideLadders.B3 : List Nat := [0, 1, 0, 4, 15, 0, 32, 96, 255, 0, 1023]
theorem spec_BesideLadders.tab3 : rtab .any (opsOf Try.f11 3) = spec_BesideLadders.T3 := by kernel_rfl
theorem spec_BesideLadders.bits3 : waitsOk spec_BesideLadders.T3.2 spec_BesideLadders.B3 = true := by kernel_rfl
set_option maxHeartbeats 8000000 in
set_option maxRecDepth 100000 in
theorem spec_BesideLadders.calls (k : Nat) (a0_0 : Int) (A0_1 : Option Addr) (c0_1 : Nat) (l0_1 : List Int) (a1_0 : Int) (A1_1 : Option Addr) (c1_1 : Nat) (l1_1 : List Int) (r1 : Int) (r2 : List Int) (r3 : Bool) (w : World) (hr0_1 : Kd.C (Kd.int .i64) w A0_1 l0_1.length l0_1) (hc0_1 : l0_1.length ≤ c0_1) (hr1_1 : Kd.C (Kd.int .i64) w A1_1 l1_1.length l1_1) (hc1_1 : l1_1.length ≤ c1_1) (h : spec_BesideLadders.f k a0_0 l0_1 a1_0 l1_1 = some (r1, r2, r3)) :
    Calls Try.prog 11 #[.agg #[.int .i64 a0_0, .slice A0_1 l0_1.length c0_1], .agg #[.int .i64 a1_0, .slice A1_1 l1_1.length c1_1]] w fun e w' => ∃ v1_ : Value, e = .returned (.tuple #[.agg #[.int .i64 r1, v1_], .bool r3]) ∧ Kd.R (Kd.int .i64) 3 w' w.heap.size (fun _ => True) v1_ r2 ∧ Below w.heap.size w w' := by
  have hu26 := Try.underlying26
  have HR0_1 := Aside0.mk hr0_1
  have HC0_1 := Aside0.mk hc0_1
  clear hr0_1 hc0_1
  have HR1_1 := Aside0.mk hr1_1
  have HC1_1 := Aside0.mk hc1_1
  clear hr1_1 hc1_1
  have HB := Aside0.mk (Below.refl w.heap.size w)
  have H : ((spec_laGood.f k a0_0 l0_1).bind fun t120 => (if t120 = true then ((spec_laGood.f k a1_0 l1_1).bind fun t121 => (spec_BesideLadders.j0 k (!t121) a0_0 l0_1 a1_0 l1_1)) else (spec_BesideLadders.j0 k true a0_0 l0_1 a1_0 l1_1))) = some (r1, r2, r3) := h
  clear h
  have HC3 := Aside0.mk H
  clear H
  go_enter Try.func11, Try.ntmps11
  go_upto_region 1 with (first | ((with_reducible refine gate_dst (N := 2) rfl ?_); refine bx 2 #[.int .i64 a0_0, .slice A0_1 l0_1.length c0_1] 26 ?_; intro gb117 hg w4 hbox hb; have BK117 := Aside0.mk (hbox); have GW117 := gE hg HB; have GE117 := gE hg HB; replace HB := uD HB hb; clear hb hbox hg) | ((with_reducible refine gate_dst (N := 3) rfl ?_); refine bx 3 #[.int .i64 a1_0, .slice A1_1 l1_1.length c1_1] 26 ?_; intro gb118 hg w5 hbox hb; have BK118 := Aside0.mk (hbox); have GW118 := gE hg HB; have GE118 := gE hg HB; replace HB := uD HB hb; have NB117_118 := nB hg BK117; have NB118_117 := nC hg BK117; replace BK117 := uB BK117 hb; clear hb hbox hg) | ((with_reducible refine gate_dst (N := 4) rfl ?_); refine bx 4 #[.int .i64 0, .slice none 0 0] 26 ?_; intro gb119 hg w6 hbox hb; have BK119 := Aside0.mk (hbox); have GW119 := gE hg HB; have GE119 := gE hg HB; replace HB := uD HB hb; have NB117_119 := nB hg BK117; have NB119_117 := nC hg BK117; replace BK117 := uB BK117 hb; have NB118_119 := nB hg BK118; have NB119_118 := nC hg BK118; replace BK118 := uB BK118 hb; clear hb hbox hg))
  (try simp only [Act.put, List.setIfInBounds_toArray, List.set_cons_zero, List.set_cons_succ])
  go_cut [16] (fun v16 wc => ∃ (kq : Nat) (x16_2 : Bool), v16 = .bool x16_2 ∧ Aside0 (spec_BesideLadders.j0 kq x16_2 a0_0 l0_1 a1_0 l1_1 = some (r1, r2, r3)) ∧ Aside0 (kq ≤ k) ∧ Aside0 (wc.heap[gb117]? = some (.cells #[.int .i64 a0_0, (.slice A0_1 l0_1.length c0_1)] 26 (0, 0))) ∧ Aside0 (wc.heap[gb118]? = some (.cells #[.int .i64 a1_0, (.slice A1_1 l1_1.length c1_1)] 26 (0, 0))) ∧ Aside0 (wc.heap[gb119]? = some (.cells #[.int .i64 0, (.slice none 0 0)] 26 (0, 0))) ∧ Aside0 (Below w.heap.size w wc))
  case first =>
    have H := HC3.out
    clear HC3
    replace H := Option.bind_eq_some_iff.mp H
    obtain ⟨t120, A70, H⟩ := H
    replace H : (if t120 = true then ((spec_laGood.f k a1_0 l1_1).bind fun t121 => (spec_BesideLadders.j0 k (!t121) a0_0 l0_1 a1_0 l1_1)) else (spec_BesideLadders.j0 k true a0_0 l0_1 a1_0 l1_1)) = some (r1, r2, r3) := H
    have A7 := Aside0.mk A70
    clear A70
    by_cases c8 : t120 = true
    · subst c8
      have H1 : ((spec_laGood.f k a1_0 l1_1).bind fun t121 => (spec_BesideLadders.j0 k (!t121) a0_0 l0_1 a1_0 l1_1)) = some (r1, r2, r3) := by rw [if_pos rfl] at H; exact H
      clear H
      have H := H1
      clear H1
      replace H := Option.bind_eq_some_iff.mp H
      obtain ⟨t121, A90, H⟩ := H
      replace H : (spec_BesideLadders.j0 k (!t121) a0_0 l0_1 a1_0 l1_1) = some (r1, r2, r3) := H
      have A9 := Aside0.mk A90
      clear A90
      have H' := Aside0.mk H
      clear H
      have hnb10 := NB117_118.out
      have hnc10 := NB118_117.out
      have hnb11 := NB117_119.out
      have hnc11 := NB119_117.out
      have hcz12_0 := cl BK117 0
      have hcz12_1 := cl BK117 1
      have hfz12_0 := blk_frozen BK117.out 0
      have hfz12_1 := blk_frozen BK117.out 1
      go_wp2_with (first | ((with_reducible refine gate_callee (f := 90) rfl ?_); refine gs (some 10) Try.func90 #[.agg #[.int .i64 a0_0, .slice A0_1 l0_1.length c0_1]] ?_; (with_reducible refine (spec_laGood.calls k a0_0 _ _ l0_1 true _ ?side1 ?side2 A7.out).mono ?_); (case side1 => exact qC (Kd.C_below HR0_1.out HB.out)); (case side2 => exact HC0_1.out); rintro e w13 ⟨rfl, hb⟩; refine ⟨_, rfl, ?_⟩; replace BK117 := uB BK117 hb; replace BK118 := uB BK118 hb; replace BK119 := uB BK119 hb; replace HB := uD HB hb; (try clear hb); (try clear hb2); (try clear hk); (try clear hi); have hnb14 := NB118_119.out; have hnc14 := NB119_118.out; have hcz15_0 := cl BK118 0; have hcz15_1 := cl BK118 1; have hfz15_0 := blk_frozen BK118.out 0; have hfz15_1 := blk_frozen BK118.out 1) | (go_at_call 90; (with_reducible refine (spec_laGood.calls k a1_0 _ _ l1_1 t121 _ ?side1 ?side2 A9.out).mono ?_); (case side1 => exact qC (Kd.C_below HR1_1.out HB.out)); (case side2 => exact HC1_1.out); rintro e w16 ⟨rfl, hb⟩; replace BK117 := uB BK117 hb; replace BK118 := uB BK118 hb; replace BK119 := uB BK119 hb; replace HB := uD HB hb; (try clear hb); (try clear hb2); (try clear hk); (try clear hi)))
      go_meet
      case rel => exact ⟨_, (!t121), (by first | rfl | (simp; done) | (simp [*]; done)), H', ⟨by first | omega | exact Nat.le_refl _⟩, ⟨qB BK117⟩, ⟨qB BK118⟩, ⟨qB BK119⟩, ⟨qD HB⟩⟩
    · replace c8 := Bool.eq_false_iff.mpr c8
      subst c8
      have H1 : (spec_BesideLadders.j0 k true a0_0 l0_1 a1_0 l1_1) = some (r1, r2, r3) := by rw [if_neg (show ¬ (false = true) by decide)] at H; exact H
      clear H
      have H := H1
      clear H1
      have H' := Aside0.mk H
      clear H
      have hnb17 := NB117_118.out
      have hnc17 := NB118_117.out
      have hnb18 := NB117_119.out
      have hnc18 := NB119_117.out
      have hcz19_0 := cl BK117 0
      have hcz19_1 := cl BK117 1
      have hfz19_0 := blk_frozen BK117.out 0
      have hfz19_1 := blk_frozen BK117.out 1
      go_wp2_with (first | ((with_reducible refine gate_callee (f := 90) rfl ?_); refine gs (some 10) Try.func90 #[.agg #[.int .i64 a0_0, .slice A0_1 l0_1.length c0_1]] ?_; (with_reducible refine (spec_laGood.calls k a0_0 _ _ l0_1 false _ ?side1 ?side2 A7.out).mono ?_); (case side1 => exact qC (Kd.C_below HR0_1.out HB.out)); (case side2 => exact HC0_1.out); rintro e w20 ⟨rfl, hb⟩; refine ⟨_, rfl, ?_⟩; replace BK117 := uB BK117 hb; replace BK118 := uB BK118 hb; replace BK119 := uB BK119 hb; replace HB := uD HB hb; (try clear hb); (try clear hb2); (try clear hk); (try clear hi)))
      go_meet
      case rel => exact ⟨_, (true), (by first | rfl | (simp; done) | (simp [*]; done)), H', ⟨by first | omega | exact Nat.le_refl _⟩, ⟨qB BK117⟩, ⟨qB BK118⟩, ⟨qB BK119⟩, ⟨qD HB⟩⟩
  case rest =>
    clear HC3
    try clear c1
    try clear p2
    try clear c8
    try clear c9
    try clear c10
    try clear c11
    try clear c14
    try clear c17
    try clear c18
    try clear hcz12_0
    try clear hcz12_1
    try clear hcz15_0
    try clear hcz15_1
    try clear hcz19_0
    try clear hcz19_1
    try clear hfz12_0
    try clear hfz12_1
    try clear hfz15_0
    try clear hfz15_1
    try clear hfz19_0
    try clear hfz19_1
    obtain ⟨kq, x16_2, rfl, HA, HJ2, BK117, BK118, BK119, HB⟩ := hcut
    cases kq with
    | zero => exact absurd HA.out (by simp [spec_BesideLadders.j0])
    | succ kj2 =>
      have H := HA.out
      clear HA
      simp only [spec_BesideLadders.j0] at H
      by_cases c21 : x16_2 = true
      · subst c21
        have H1 : (some (0, ([] : List Int), false)) = some (r1, r2, r3) := by rw [if_pos rfl] at H; exact H
        clear H
        have H := H1
        clear H1
        simp only [Option.some.injEq, Prod.mk.injEq] at H
        obtain ⟨rfl, rfl, rfl⟩ := H
        have hnb22 := NB119_117.out
        have hnc22 := NB117_119.out
        have hnb23 := NB119_118.out
        have hnc23 := NB118_119.out
        have hcz24_0 := cl BK119 0
        have hcz24_1 := cl BK119 1
        have hfz24_0 := blk_frozen BK119.out 0
        have hfz24_1 := blk_frozen BK119.out 1
        go_wp2
        refine bodyPost_ret (results_ct rfl _ _ gb119 26 #[.int .i64 0, .slice none 0 0] (0, 0) _ rfl (by (with_reducible repeat (first | refine blk_drewN ?_ _ | refine blk_drew ?_ | refine blk_alloc ?_ _)); refine blk_put (cs := #[.int .i64 0, .slice none 0 0]) ?_ 1 _ rfl; (with_reducible repeat (first | refine blk_drewN ?_ _ | refine blk_drew ?_ | refine blk_alloc ?_ _)); refine blk_put (cs := #[.int .i64 0, .slice none 0 0]) ?_ 0 _ rfl; (with_reducible repeat (first | refine blk_drewN ?_ _ | refine blk_drew ?_ | refine blk_alloc ?_ _)); exact BK119.out) Try.underlying26 rfl (by kernel_rfl)) rfl ?_
        exact ⟨_, by first | rfl | (simp [errW_none, errW_some] <;> rfl) | (simp [*, errW_none, errW_some] <;> rfl), by first | exact Kd.R_nil _ _ _ _ _ | exact Kd.N_nil _ _ _ _ _ | exact Kd.V_nil _ _ _ _ _ | exact Kd.Q_nil _ _ _ _ _ | exact Kd.S_nil _ _ _ _ _, qD HB⟩
      · replace c21 := Bool.eq_false_iff.mpr c21
        subst c21
        have H1 : ((spec_l1Own.f l0_1).bind fun t122 => (spec_BesideLadders.l0 kj2 l1_1 (l1_1.length : Int) 0 a0_0 l0_1 (wrap64 (a0_0 + a1_0)) t122)) = some (r1, r2, r3) := by rw [if_neg (show ¬ (false = true) by decide)] at H; exact H
        clear H
        have H := H1
        clear H1
        replace H := Option.bind_eq_some_iff.mp H
        obtain ⟨t122, A250, H⟩ := H
        replace H : (spec_BesideLadders.l0 kj2 l1_1 (l1_1.length : Int) 0 a0_0 l0_1 (wrap64 (a0_0 + a1_0)) t122) = some (r1, r2, r3) := H
        have A25 := Aside0.mk A250
        clear A250
        have H' := Aside0.mk H
        clear H
        try go_wp2
        replace BK117 := Aside0.mk (blk_drew BK117.out)
        replace BK118 := Aside0.mk (blk_drew BK118.out)
        replace BK119 := Aside0.mk (blk_drew BK119.out)
        replace HB := Aside0.mk (below_drew1 HB.out)
        refine start_ (n := 11) (S := fun w' => w'.cell? ⟨gb117, 0, none⟩ = some (.int .i64 a0_0) ∧ w'.cell? ⟨gb117, 1, none⟩ = some (.slice A0_1 l0_1.length c0_1) ∧ w'.cell? ⟨gb118, 0, none⟩ = some (.int .i64 a1_0) ∧ w'.cell? ⟨gb118, 1, none⟩ = some (.slice A1_1 l1_1.length c1_1)) (ds := []) #[false, false, false, false, false, false, false, false, false, false, false] (by kernel_rfl) rfl rfl ⟨cl BK117 0, cl BK117 1, cl BK118 0, cl BK118 1⟩ (fun hHeld => ?_); refine with_tabW spec_BesideLadders.tab3 spec_BesideLadders.bits3 (fun HT_ HW_ => ?_)
        generalize wc.drew = w26 at BK117 BK118 BK119 HB hHeld ⊢
        refine pu 0 (some 18) #[true, false, false, false, false, false, false, false, false, false, false] HT_ ?_
        refine pu 2 (some 20) #[true, false, true, false, false, false, false, false, false, false, false] HT_ ?_
        refine pu 5 (some 23) #[true, false, true, false, false, true, false, false, false, false, false] HT_ ?_
        refine tk 1 (some 19) #[true, true, true, false, false, true, false, false, false, false, false] HT_ HW_ hHeld ?_
        refine tk 3 (some 21) #[true, true, true, true, false, true, false, false, false, false, false] HT_ HW_ hHeld ?_
        refine pu 4 (some 22) #[true, true, true, true, true, true, false, false, false, false, false] HT_ ?_
        refine tk 6 (some 24) #[true, true, true, true, true, true, true, false, false, false, false] HT_ HW_ hHeld ?_
        refine join_ (σ := Value × Nat) 1 #[true, true, true, true, true, true, true, true, true, true, false] (fun s_ => [(25, s_.1), (6, .pointer (some ⟨s_.2, 0, none⟩)), (26, .agg #[.int .i64 (wrap64 (a0_0 + a1_0)), s_.1])]) (fun s_ w' => (w'.cell? ⟨gb117, 0, none⟩ = some (.int .i64 a0_0) ∧ w'.cell? ⟨gb117, 1, none⟩ = some (.slice A0_1 l0_1.length c0_1) ∧ w'.cell? ⟨gb118, 0, none⟩ = some (.int .i64 a1_0) ∧ w'.cell? ⟨gb118, 1, none⟩ = some (.slice A1_1 l1_1.length c1_1)) ∧ (Kd.R (Kd.int .i64) 3 w' w.heap.size (fun _ => True) s_.1 t122) ∧ (w'.heap[gb117]? = some (.cells #[.int .i64 a0_0, .slice A0_1 l0_1.length c0_1] 26 (0, 0))) ∧ (w'.heap[gb118]? = some (.cells #[.int .i64 a1_0, .slice A1_1 l1_1.length c1_1] 26 (0, 0))) ∧ (w'.heap[gb119]? = some (.cells #[.int .i64 0, .slice none 0 0] 26 (0, 0))) ∧ (w'.heap[s_.2]? = some (.cells #[.int .i64 0, .slice none 0 0] 26 (0, 0))) ∧ (w.heap.size ≤ s_.2) ∧ (w.heap.size ≤ s_.2) ∧ (gb117 ≠ s_.2) ∧ (s_.2 ≠ gb117) ∧ (gb118 ≠ s_.2) ∧ (s_.2 ≠ gb118) ∧ (gb119 ≠ s_.2) ∧ (s_.2 ≠ gb119) ∧ (Below w.heap.size w w')) ?_ ?_
        rotate_left
        · intro hCont
          refine two_ (i := 7) (j := 9) (Ni := some 25) (Nj := some 6) #[true, true, true, true, true, true, true, true, false, false, false] #[true, true, true, true, true, true, true, false, false, true, false] rfl rfl rfl rfl (two_of HT_.out (by kernel_rfl)) (by decide) (by decide) (fun K hK => ?_) (fun K hK => ?_)
          · skip
            refine gt Try.func91 #[.slice A0_1 l0_1.length c0_1] ?_
            with_reducible refine (spec_l1Own.calls _ _ l0_1 t122 _ ?side1 ?side2 A25.out).mono ?_
            (case side1 => exact qC (Kd.C_below HR0_1.out HB.out))
            (case side2 => exact HC0_1.out)
            rintro e w27 ⟨v123, rfl, ho0, hb⟩
            refine ⟨_, rfl, ?_⟩
            have HO124 := Aside0.mk (Kd.R_lower ho0 (below_size (qD HB)))
            replace BK117 := uB BK117 hb
            replace BK118 := uB BK118 hb
            replace BK119 := uB BK119 hb
            replace HB := uD HB hb
            (try clear hb)
            (try clear hb2)
            (try clear hk)
            (try clear hi)
            (try clear ho0)
            obtain ⟨Ao28, co28, eo28⟩ := Kd.R_slice HO124.out
            (first | subst eo28 | (injection eo28 with f1_ f2_ f3_; have f4_ := f1_.symm; have f5_ := f3_.symm; clear f1_ f2_ f3_; subst f4_; subst f5_))
            refine hK.out _ _ ⟨cl BK117 0, cl BK117 1, cl BK118 0, cl BK118 1⟩ (fun hHeld => ?_)
            clear hK K
            refine nm (some 25) ?_
            refine pu 8 (some 26) #[true, true, true, true, true, true, true, true, true, false, false] HT_ ?_
            refine one_ (i := 9) (N := some 6) #[true, true, true, true, true, true, true, true, true, true, false] rfl rfl (one_of HT_.out (by kernel_rfl)) (by decide) (fun K hK => ?_)
            refine box_step ?hg (N := 6) ?hd (cs := #[.int .i64 0, .slice none 0 0]) (t := 26) ?hr ?_; (case hd => rfl); (case hg => rfl); (case hr => first | (go_simp; done) | (go_simp; rfl))
            intro gb125 hg w29 hbox hb
            replace HO124 := uR HO124 hb
            have BK125 := Aside0.mk (hbox)
            have GW125 := gE hg HB
            have GE125 := gE hg HB
            replace HB := uD HB hb
            have NB117_125 := nB hg BK117
            have NB125_117 := nC hg BK117
            replace BK117 := uB BK117 hb
            have NB118_125 := nB hg BK118
            have NB125_118 := nC hg BK118
            replace BK118 := uB BK118 hb
            have NB119_125 := nB hg BK119
            have NB125_119 := nC hg BK119
            replace BK119 := uB BK119 hb
            clear hb hbox hg
            refine hK.out _ _ ⟨cl BK117 0, cl BK117 1, cl BK118 0, cl BK118 1⟩ (fun hHeld => ?_)
            clear hK K
            refine nm (some 6) ?_
            exact norm_ (by simp only [putAll, Act.put, List.setIfInBounds_toArray, List.set_cons_zero, List.set_cons_succ]) (hCont (.slice Ao28 t122.length co28, gb125) _ ⟨hHeld, (qR HO124), (qB BK117), (qB BK118), (qB BK119), (qB BK125), GW125.out, GE125.out, NB117_125.out, NB125_117.out, NB118_125.out, NB125_118.out, NB119_125.out, NB125_119.out, (qD HB)⟩)
          · skip
            refine box_step ?hg (N := 6) ?hd (cs := #[.int .i64 0, .slice none 0 0]) (t := 26) ?hr ?_; (case hd => rfl); (case hg => rfl); (case hr => first | (go_simp; done) | (go_simp; rfl))
            intro gb125 hg w27 hbox hb
            have BK125 := Aside0.mk (hbox)
            have GW125 := gE hg HB
            have GE125 := gE hg HB
            replace HB := uD HB hb
            have NB117_125 := nB hg BK117
            have NB125_117 := nC hg BK117
            replace BK117 := uB BK117 hb
            have NB118_125 := nB hg BK118
            have NB125_118 := nC hg BK118
            replace BK118 := uB BK118 hb
            have NB119_125 := nB hg BK119
            have NB125_119 := nC hg BK119
            replace BK119 := uB BK119 hb
            clear hb hbox hg
            refine hK.out _ _ ⟨cl BK117 0, cl BK117 1, cl BK118 0, cl BK118 1⟩ (fun hHeld => ?_)
            clear hK K
            refine nm (some 6) ?_
            refine one_ (i := 7) (N := some 25) #[true, true, true, true, true, true, true, true, false, true, false] rfl rfl (one_of HT_.out (by kernel_rfl)) (by decide) (fun K hK => ?_)
            refine gt Try.func91 #[.slice A0_1 l0_1.length c0_1] ?_
            with_reducible refine (spec_l1Own.calls _ _ l0_1 t122 _ ?side1 ?side2 A25.out).mono ?_
            (case side1 => exact qC (Kd.C_below HR0_1.out HB.out))
            (case side2 => exact HC0_1.out)
            rintro e w28 ⟨v123, rfl, ho0, hb⟩
            refine ⟨_, rfl, ?_⟩
            have HO124 := Aside0.mk (Kd.R_lower ho0 (below_size (qD HB)))
            replace BK117 := uB BK117 hb
            replace BK118 := uB BK118 hb
            replace BK119 := uB BK119 hb
            replace BK125 := uB BK125 hb
            replace HB := uD HB hb
            (try clear hb)
            (try clear hb2)
            (try clear hk)
            (try clear hi)
            (try clear ho0)
            obtain ⟨Ao29, co29, eo29⟩ := Kd.R_slice HO124.out
            (first | subst eo29 | (injection eo29 with f1_ f2_ f3_; have f4_ := f1_.symm; have f5_ := f3_.symm; clear f1_ f2_ f3_; subst f4_; subst f5_))
            refine hK.out _ _ ⟨cl BK117 0, cl BK117 1, cl BK118 0, cl BK118 1⟩ (fun hHeld => ?_)
            clear hK K
            refine nm (some 25) ?_
            refine pu 8 (some 26) #[true, true, true, true, true, true, true, true, true, true, false] HT_ ?_
            exact norm_ (by simp only [putAll, Act.put, List.setIfInBounds_toArray, List.set_cons_zero, List.set_cons_succ]) (hCont (.slice Ao29 t122.length co29, gb125) _ ⟨hHeld, (qR HO124), (qB BK117), (qB BK118), (qB BK119), (qB BK125), GW125.out, GE125.out, NB117_125.out, NB125_117.out, NB118_125.out, NB125_118.out, NB119_125.out, NB125_119.out, (qD HB)⟩)
        rintro ⟨v123, gb125⟩ w30 ⟨hS_, h0_, h1_, h2_, h3_, h4_, h5_, h6_, h7_, h8_, h9_, h10_, h11_, h12_, h13_⟩
        have n0_ : Aside0 (Kd.R (Kd.int .i64) 3 w30 w.heap.size (fun _ => True) v123 t122) := ⟨h0_⟩
        have n1_ : Aside0 (w30.heap[gb117]? = some (.cells #[.int .i64 a0_0, .slice A0_1 l0_1.length c0_1] 26 (0, 0))) := ⟨h1_⟩
        have n2_ : Aside0 (w30.heap[gb118]? = some (.cells #[.int .i64 a1_0, .slice A1_1 l1_1.length c1_1] 26 (0, 0))) := ⟨h2_⟩
        have n3_ : Aside0 (w30.heap[gb119]? = some (.cells #[.int .i64 0, .slice none 0 0] 26 (0, 0))) := ⟨h3_⟩
        have n4_ : Aside0 (w30.heap[gb125]? = some (.cells #[.int .i64 0, .slice none 0 0] 26 (0, 0))) := ⟨h4_⟩
        have n5_ : Aside0 (w.heap.size ≤ gb125) := ⟨h5_⟩
        have n6_ : Aside0 (w.heap.size ≤ gb125) := ⟨h6_⟩
        have n7_ : Aside0 (gb117 ≠ gb125) := ⟨h7_⟩
        have n8_ : Aside0 (gb125 ≠ gb117) := ⟨h8_⟩
        have n9_ : Aside0 (gb118 ≠ gb125) := ⟨h9_⟩
        have n10_ : Aside0 (gb125 ≠ gb118) := ⟨h10_⟩
        have n11_ : Aside0 (gb119 ≠ gb125) := ⟨h11_⟩
        have n12_ : Aside0 (gb125 ≠ gb119) := ⟨h12_⟩
        have n13_ : Aside0 (Below w.heap.size w w30) := ⟨h13_⟩
        clear BK117
        clear BK118
        clear BK119
        clear HB
        clear h0_ h1_ h2_ h3_ h4_ h5_ h6_ h7_ h8_ h9_ h10_ h11_ h12_ h13_
        have HO124 := n0_
        have BK117 := n1_
        have BK118 := n2_
        have BK119 := n3_
        have BK125 := n4_
        have GW125 := n5_
        have GE125 := n6_
        have NB117_125 := n7_
        have NB125_117 := n8_
        have NB118_125 := n9_
        have NB125_118 := n10_
        have NB119_125 := n11_
        have NB125_119 := n12_
        have HB := n13_
        clear n0_ n1_ n2_ n3_ n4_ n5_ n6_ n7_ n8_ n9_ n10_ n11_ n12_ n13_
        have hHeld : w30.cell? ⟨gb117, 0, none⟩ = some (.int .i64 a0_0) ∧ w30.cell? ⟨gb117, 1, none⟩ = some (.slice A0_1 l0_1.length c0_1) ∧ w30.cell? ⟨gb118, 0, none⟩ = some (.int .i64 a1_0) ∧ w30.cell? ⟨gb118, 1, none⟩ = some (.slice A1_1 l1_1.length c1_1) := hS_
        obtain ⟨Ao31, co31, eo31⟩ := Kd.R_slice HO124.out
        (first | subst eo31 | (injection eo31 with f1_ f2_ f3_; have f4_ := f1_.symm; have f5_ := f3_.symm; clear f1_ f2_ f3_; subst f4_; subst f5_))
        refine norm_ (a' := ?_) ?_ ?_
        rotate_left
        · simp only [putAll, Act.put, List.setIfInBounds_toArray, List.set_cons_zero, List.set_cons_succ]
          rfl
        refine one_ (i := 10) (N := none) #[true, true, true, true, true, true, true, true, true, true, true] rfl rfl (one_of HT_.out (by kernel_rfl)) (by decide) (fun K hK => ?_)
        have hs32 : w30.cell? ⟨gb125, 0, none⟩ = some (.int .i64 0) := cl BK125 0
        have hfs32 := blk_frozen BK125.out 0
        have hns32_0 := NB117_125.out
        have hns32_1 := NB118_125.out
        have hns32_2 := NB119_125.out
        have hms32_0 := NB125_117.out
        have hms32_1 := NB125_118.out
        have hms32_2 := NB125_119.out
        have hs33 : w30.cell? ⟨gb125, 1, none⟩ = some (.slice none 0 0) := cl BK125 1
        have hfs33 := blk_frozen BK125.out 1
        have hns33_0 := NB117_125.out
        have hns33_1 := NB118_125.out
        have hns33_2 := NB119_125.out
        have hms33_0 := NB125_117.out
        have hms33_1 := NB125_118.out
        have hms33_2 := NB125_119.out
        refine skip_ (w1 := ?_) (by rfl) rfl ?_ ?_
        rotate_left
        · go_simp
          rfl
        refine hK.out _ _ ⟨((cell_far (p := ⟨gb125, _, none⟩) NB117_125.out _).trans (((cell_far (p := ⟨gb125, _, none⟩) NB117_125.out _).trans (hHeld.1)))), ((cell_far (p := ⟨gb125, _, none⟩) NB117_125.out _).trans (((cell_far (p := ⟨gb125, _, none⟩) NB117_125.out _).trans (hHeld.2.1)))), ((cell_far (p := ⟨gb125, _, none⟩) NB118_125.out _).trans (((cell_far (p := ⟨gb125, _, none⟩) NB118_125.out _).trans (hHeld.2.2.1)))), ((cell_far (p := ⟨gb125, _, none⟩) NB118_125.out _).trans (((cell_far (p := ⟨gb125, _, none⟩) NB118_125.out _).trans (hHeld.2.2.2))))⟩ (fun hHeld => ?_)
        clear hK K
        refine done_ (done_of HT_.out (by kernel_rfl)) ?_
        have hnb34 := NB118_117.out
        have hnc34 := NB117_118.out
        have hnb35 := NB118_119.out
        have hnc35 := NB119_118.out
        have hnb36 := NB118_125.out
        have hnc36 := NB125_118.out
        have hcz37_0 := cl BK118 0
        have hcz37_1 := cl BK118 1
        have hfz37_0 := blk_frozen BK118.out 0
        have hfz37_1 := blk_frozen BK118.out 1
        try go_wp2
        go_loopg [30] kj2 (fun kq v30 w' => ∃ (x30_2 : Int) (x126001_2 : List Int) (u126001 : Value), v30 = .int .i64 x30_2 ∧ Aside0 (spec_BesideLadders.l0 kq l1_1 (l1_1.length : Int) x30_2 a0_0 l0_1 (wrap64 (a0_0 + a1_0)) x126001_2 = some (r1, r2, r3)) ∧ Aside0 (kq ≤ kj2) ∧ Aside0 (Kd.R (Kd.int .i64) 3 w' w.heap.size (fun _ => True) u126001 x126001_2) ∧ Aside0 (w'.heap[gb117]? = some (.cells #[.int .i64 a0_0, (.slice A0_1 l0_1.length c0_1)] 26 (0, 0))) ∧ Aside0 (w'.heap[gb118]? = some (.cells #[.int .i64 a1_0, (.slice A1_1 l1_1.length c1_1)] 26 (0, 0))) ∧ Aside0 (w'.heap[gb119]? = some (.cells #[.int .i64 0, (.slice none 0 0)] 26 (0, 0))) ∧ Aside0 (w'.heap[gb125]? = some (.cells #[.int .i64 (wrap64 (a0_0 + a1_0)), u126001] 26 (0, 0))) ∧ Aside0 (Below w.heap.size w w'))
        case atStart => exact ⟨(0), (t122), (.slice Ao31 t122.length co31), (by first | rfl | (simp; done) | (simp [*]; done)), H', ⟨Nat.le_refl _⟩, ⟨by (with_reducible repeat (first | apply Kd.R_alloc | apply Kd.R_drewN | apply Kd.R_drew)); exact Kd.R_mono (Kd.R_far (p := ⟨gb125, 1, none⟩) (Kd.R_far (p := ⟨gb125, 0, none⟩) (Kd.R_types HO124.out BK125.out (by decide)) (fun _ hk => hk.2) (.int .i64 (wrap64 (a0_0 + a1_0)))) (fun _ hk => hk.2) (.slice Ao31 t122.length co31)) (fun _ hk => trivial)⟩, ⟨qB BK117⟩, ⟨qB BK118⟩, ⟨qB BK119⟩, ⟨by (with_reducible repeat (first | refine blk_drewN ?_ _ | refine blk_drew ?_ | refine blk_alloc ?_ _)); refine blk_put (cs := #[.int .i64 (wrap64 (a0_0 + a1_0)), .slice none 0 0]) ?_ 1 _ rfl; (with_reducible repeat (first | refine blk_drewN ?_ _ | refine blk_drew ?_ | refine blk_alloc ?_ _)); refine blk_put (cs := #[.int .i64 0, .slice none 0 0]) ?_ 0 _ rfl; (with_reducible repeat (first | refine blk_drewN ?_ _ | refine blk_drew ?_ | refine blk_alloc ?_ _)); exact BK125.out⟩, ⟨qD HB⟩⟩
        case round =>
          clear H'
          try clear c1
          try clear c2
          try clear p2
          try clear c3
          try clear p6
          try clear c8
          try clear c9
          try clear c10
          try clear c11
          try clear c14
          try clear c17
          try clear c18
          try clear c21
          try clear c22
          try clear c23
          try clear c34
          try clear c35
          try clear c36
          try clear hcz12_0
          try clear hcz12_1
          try clear hcz15_0
          try clear hcz15_1
          try clear hcz19_0
          try clear hcz19_1
          try clear hcz24_0
          try clear hcz24_1
          try clear hcz37_0
          try clear hcz37_1
          try clear hfz12_0
          try clear hfz12_1
          try clear hfz15_0
          try clear hfz15_1
          try clear hfz19_0
          try clear hfz19_1
          try clear hfz24_0
          try clear hfz24_1
          try clear hfz37_0
          try clear hfz37_1
          try clear p2
          obtain ⟨x30_2, x126001_2, u126001, rfl, HA, HK2, HO_126001, BK117, BK118, BK119, BK125, HB⟩ := hrel
          cases gk with
          | zero => exact absurd HA.out (by simp [spec_BesideLadders.l0])
          | succ k2 =>
            have H := HA.out
            clear HA
            simp only [spec_BesideLadders.l0] at H
            by_cases c38 : x30_2 < (l1_1.length : Int)
            · rw [if_pos c38] at H
              have c38b0 : decide (x30_2 < (l1_1.length : Int)) = true := decide_eq_true c38
              clear c38
              by_cases c39 : 0 ≤ x30_2
              · rw [if_pos c39] at H
                have c39b0 : decide (0 ≤ x30_2) = true := decide_eq_true c39
                clear c39
                by_cases c40 : x30_2 < (l1_1.length : Int)
                · rw [if_pos c40] at H
                  have c40b0 : decide (x30_2 < (l1_1.length : Int)) = true := decide_eq_true c40
                  clear c40
                  by_cases c41 : x126001_2.length < 17592186044416
                  · rw [if_pos c41] at H
                    have LMc41 := Aside0.mk c41
                    clear c41
                    obtain ⟨y127, hy127⟩ : ∃ y_ : List Int, y_ = (x126001_2 ++ [wrap64 (a0_0 + (rd l1_1 x30_2))]) := ⟨_, rfl⟩
                    replace H : (spec_BesideLadders.l0 k2 l1_1 (l1_1.length : Int) (wrap64 (x30_2 + 1)) a0_0 l0_1 (wrap64 (a0_0 + a1_0)) y127) = some (r1, r2, r3) := by first | (rw [hy127]; with_reducible exact H) | (have H2_ := (Option.bind_some _ _).symm.trans H; rw [hy127]; with_reducible exact H2_) | (have H2_ := (Option.bind_some _ _).symm.trans H; with_reducible exact H2_) | with_reducible exact H | (rw [hy127]; exact H) | exact H
                    have Ny127 := Aside0.mk hy127
                    clear hy127
                    have H' := Aside0.mk H
                    clear H
                    have p126 : 0 ≤ (x30_2 : Int) := of_decide_eq_true (by first | (with_reducible assumption) | assumption)
                    have q126 : x30_2 < (l1_1.length : Int) := of_decide_eq_true (by first | (with_reducible assumption) | assumption)
                    obtain ⟨ad126, e126, hx126_0⟩ := Kd.at_int HR1_1.out x30_2 p126 q126
                    cases e126
                    replace hx126_0 := (HB.out.cell (World.block_lt_of_cell? w _ hx126_0)).trans hx126_0
                    replace p126 := eq_true p126
                    replace q126 := eq_true q126
                    have hnb42 := NB125_117.out
                    have hnc42 := NB117_125.out
                    have hnb43 := NB125_118.out
                    have hnc43 := NB118_125.out
                    have hnb44 := NB125_119.out
                    have hnc44 := NB119_125.out
                    have hcz45_0 := cl BK125 0
                    have hcz45_1 := cl BK125 1
                    have hfz45_0 := blk_frozen BK125.out 0
                    have hfz45_1 := blk_frozen BK125.out 1
                    have hnb46 := NB117_118.out
                    have hnc46 := NB118_117.out
                    have hnb47 := NB117_119.out
                    have hnc47 := NB119_117.out
                    have hcz48_0 := cl BK117 0
                    have hcz48_1 := cl BK117 1
                    have hfz48_0 := blk_frozen BK117.out 0
                    have hfz48_1 := blk_frozen BK117.out 1
                    go_wp2_with (first | ((with_reducible refine gate_builtin (b := .append) (xs := #[.tmp 35, .tmp 40]) rfl ?_); at_builtin; refine Kd.R_append (Kd.int .i64) (w0 := w) w.heap.size rfl (.tmp 35) (.tmp 40) 22 3 (.int .i64 0) 8 rfl Try.underlying22 info3 rfl (by decide) (by omega) u126001 x126001_2 (wrap64 (a0_0 + (rd l1_1 x30_2))) [.int .i64 (wrap64 (a0_0 + (rd l1_1 x30_2)))] (fun _ => True) (fun _ => False) rfl rfl ?aP (fun _ hk => hk.elim) ?aF ?aO ?aB ?aS ?aL ?_; (case aP => exact rfl); (case aB => exact (qD HB)); (case aF => exact (fun _ _ => trivial)); (case aO => exact (qR HO_126001)); (case aS => exact (below_size (qD HB))); (case aL => have := LMc41.out; omega); intro v128 w49 ho hb hg hat; rw [← Ny127.out] at ho; replace BK117 := Aside0.mk (blk_grown (g := gb117) (o := .cells #[.int .i64 a0_0, .slice A0_1 l0_1.length c0_1] 26 (0, 0)) (qB BK117) hg (Kd.R_ne HO_126001.out BK117.out (by decide))); replace BK118 := Aside0.mk (blk_grown (g := gb118) (o := .cells #[.int .i64 a1_0, .slice (some ad126) l1_1.length c1_1] 26 (0, 0)) (qB BK118) hg (Kd.R_ne HO_126001.out BK118.out (by decide))); replace BK119 := Aside0.mk (blk_grown (g := gb119) (o := .cells #[.int .i64 0, .slice none 0 0] 26 (0, 0)) (qB BK119) hg (Kd.R_ne HO_126001.out BK119.out (by decide))); replace BK125 := Aside0.mk (blk_grown (g := gb125) (o := .cells #[.int .i64 (wrap64 (a0_0 + a1_0)), u126001] 26 (0, 0)) (qB BK125) hg (Kd.R_ne HO_126001.out BK125.out (by decide))); replace HB := Aside0.mk (hb); have HO129 := Aside0.mk (ho); clear HO_126001; clear ho hb hg hat; obtain ⟨Ao50, co50, eo50⟩ := Kd.R_slice HO129.out; subst eo50; have hcz51_0 := cl BK125 0; have hcz51_1 := cl BK125 1; have hfz51_0 := blk_frozen BK125.out 0; have hfz51_1 := blk_frozen BK125.out 1))
                    go_roundg k2
                    case measure => have := HJ2.out; have := HK2.out; omega
                    case rel => exact ⟨(wrap64 (x30_2 + 1)), (y127), (.slice Ao50 y127.length co50), (by first | rfl | (simp; done) | (simp [*]; done)), H', ⟨by have := HJ2.out; have := HK2.out; omega⟩, ⟨by (with_reducible repeat (first | apply Kd.R_alloc | apply Kd.R_drewN | apply Kd.R_drew)); exact Kd.R_mono (Kd.R_far (p := ⟨gb125, 1, none⟩) (Kd.R_types HO129.out BK125.out (by decide)) (fun _ hk => hk.2) (.slice Ao50 y127.length co50)) (fun _ hk => trivial)⟩, ⟨qB BK117⟩, ⟨qB BK118⟩, ⟨qB BK119⟩, ⟨by (with_reducible repeat (first | refine blk_drewN ?_ _ | refine blk_drew ?_ | refine blk_alloc ?_ _)); refine blk_put (cs := #[.int .i64 (wrap64 (a0_0 + a1_0)), u126001]) ?_ 1 _ rfl; (with_reducible repeat (first | refine blk_drewN ?_ _ | refine blk_drew ?_ | refine blk_alloc ?_ _)); exact BK125.out⟩, ⟨qD HB⟩⟩
                  · rw [if_neg c41] at H
                    exact absurd H (by simp)
                · rw [if_neg c40] at H
                  exact absurd H (by simp)
              · rw [if_neg c39] at H
                exact absurd H (by simp)
            · rw [if_neg c38] at H
              have c38b0 : decide (x30_2 < (l1_1.length : Int)) = false := decide_eq_false c38
              clear c38
              replace H := Option.bind_eq_some_iff.mp H
              obtain ⟨⟨t130, t131, t134⟩, A520, H⟩ := H
              replace H : (some (t130, t131, t134)) = some (r1, r2, r3) := H
              have A52 := Aside0.mk A520
              clear A520
              simp only [Option.some.injEq, Prod.mk.injEq] at H
              obtain ⟨rfl, rfl, rfl⟩ := H
              have hnb53 := NB125_117.out
              have hnc53 := NB117_125.out
              have hnb54 := NB125_118.out
              have hnc54 := NB118_125.out
              have hnb55 := NB125_119.out
              have hnc55 := NB119_125.out
              have hcz56_0 := cl BK125 0
              have hcz56_1 := cl BK125 1
              have hfz56_0 := blk_frozen BK125.out 0
              have hfz56_1 := blk_frozen BK125.out 1
              obtain ⟨Ao57, co57, eo57⟩ := Kd.R_slice HO_126001.out
              subst eo57
              go_wp2_with (first | ((with_reducible refine gate_callee (f := 92) rfl ?_); refine gs (some 45) Try.func92 #[.agg #[.int .i64 (wrap64 (a0_0 + a1_0)), .slice Ao57 x126001_2.length co57]] ?_; (with_reducible refine (spec_laIf.calls k2 (wrap64 (a0_0 + a1_0)) (fun k_ => some k_ = (.slice Ao57 x126001_2.length co57 : Value).ownBlock) (.slice Ao57 x126001_2.length co57) x126001_2 t130 t131 t134 w _ ?side1 ?side2 A52.out).mono ?_); (case side1 => repeat (first | (with_reducible first | exact HB.out | apply below_alloc | apply pw_below_drewN | apply below_drew1 | refine below_set ?_ GE117.out | refine below_set ?_ GE118.out | refine below_set ?_ GE119.out | refine below_set ?_ GE125.out) | exact HB.out)); (case side2 => exact Kd.R_tight rfl HO_126001.out); rintro e w58 ⟨v132, rfl, ho0, hb, hkp⟩; refine ⟨_, rfl, ?_⟩; replace BK117 := Aside0.mk (blk_kept (qB BK117) hkp (fun hs_ => (fun e_ => (Kd.R_ne HO_126001.out BK117.out (by decide)) e_) hs_)); replace BK118 := Aside0.mk (blk_kept (qB BK118) hkp (fun hs_ => (fun e_ => (Kd.R_ne HO_126001.out BK118.out (by decide)) e_) hs_)); replace BK119 := Aside0.mk (blk_kept (qB BK119) hkp (fun hs_ => (fun e_ => (Kd.R_ne HO_126001.out BK119.out (by decide)) e_) hs_)); replace BK125 := Aside0.mk (blk_kept (qB BK125) hkp (fun hs_ => (fun e_ => (Kd.R_ne HO_126001.out BK125.out (by decide)) e_) hs_)); have HO133 := Aside0.mk (Kd.R_mono (ok' := fun k_ => True) ho0 (fun k_ hk_ => trivial)); replace HB := Aside0.mk (hb); clear HO_126001; (try clear hb); (try clear hkp); (try clear ho0); have hnb59 := NB119_117.out; have hnc59 := NB117_119.out; have hnb60 := NB119_118.out; have hnc60 := NB118_119.out; have hcz61_0 := cl BK119 0; have hcz61_1 := cl BK119 1; have hfz61_0 := blk_frozen BK119.out 0; have hfz61_1 := blk_frozen BK119.out 1; obtain ⟨Ao62, co62, eo62⟩ := Kd.R_slice HO133.out; subst eo62))
              refine bodyPost_ret (results_ct rfl _ _ gb119 26 #[.int .i64 t130, .slice Ao62 t131.length co62] (0, 0) _ rfl (by (with_reducible repeat (first | refine blk_drewN ?_ _ | refine blk_drew ?_ | refine blk_alloc ?_ _)); refine blk_put (cs := #[.int .i64 t130, .slice none 0 0]) ?_ 1 _ rfl; (with_reducible repeat (first | refine blk_drewN ?_ _ | refine blk_drew ?_ | refine blk_alloc ?_ _)); refine blk_put (cs := #[.int .i64 0, .slice none 0 0]) ?_ 0 _ rfl; (with_reducible repeat (first | refine blk_drewN ?_ _ | refine blk_drew ?_ | refine blk_alloc ?_ _)); exact BK119.out) Try.underlying26 rfl (by kernel_rfl)) rfl ?_
              exact ⟨_, by first | rfl | (simp [errW_none, errW_some] <;> rfl) | (simp [*, errW_none, errW_some] <;> rfl), by (with_reducible repeat (first | apply Kd.R_alloc | apply Kd.R_drewN | apply Kd.R_drew)); exact Kd.R_mono (Kd.R_far (p := ⟨gb119, 1, none⟩) (Kd.R_far (p := ⟨gb119, 0, none⟩) (Kd.R_types HO133.out BK119.out (by decide)) (fun _ hk => hk.2) (.int .i64 t130)) (fun _ hk => hk.2) (.slice Ao62 t131.length co62)) (fun _ hk => trivial), qD HB⟩

end Go.Proofs.Ytlmlamkbedfmhaa.P
