-- Put together by wip/merge.py (a program of this session's) out of this claim's texts; Lean checks it.
import Derived.Test.YtlmlamkbedfmhaaG22
import Derived.Test.YtlmlamkbedfmhaaG23
import Derived.Test.YtlmlamkbedfmhaaG27
import Derived.Test.YtlmlamkbedfmhaaG29
import Derived.Test.YtlmlamkbedfmhaaG30
import Derived.Test.YtlmlamkbedfmhaaG25
import Derived.Test.YtlmlamkbedfmhaaG26
import Derived.Test.YtlmlamkbedfmhaaG28
import Derived.Test.YtlmlamkbedfmhaaG31
section
namespace Go.Proofs.Ytlmlamkbedfmhaa.P
open Go.RowKit Go.Proofs.YtlmlamkbedfmhaaW.PrintWords Go.Proofs.YtlmlamkbedfmhaaW.PrintLast Go.Proofs.YtlmlamkbedfmhaaW.PrintMore
attribute [local go_sem] max2_int min2_int max_two min_two max_three min_three max_four min_four   -- for this text's walks alone
set_option linter.unusedVariables false
set_option linter.unusedSimpArgs false

/-! ### impl_LastMoves: function 64 -/
mutual
def impl_LastMoves.j0 : Nat → Bool → Int → List Int → Option (List Int × Bool)
  | 0, _, _, _ => none
  | k + 1, x13, x395000, x395001 => if x13 = true then (some (([] : List Int), false)) else (impl_LastMoves.l0 k (([] : List Int)) (wrap64 (x395000 - 1)) 0 x395000 x395001)
def impl_LastMoves.l0 : Nat → List Int → Int → Int → Int → List Int → Option (List Int × Bool)
  | 0, _, _, _, _, _ => none
  | k + 1, x4, x17, x18, x395000, x395001 => if x18 < x17 then ((slices_Clone_int_int.f x395001).bind fun t400 => ((some (([x18] : List Int) : List Int)).bind fun y403 => (if t400.length + y403.length < 17592186044416 then ((impl_needless.f k x395000 (t400 ++ y403)).bind fun t409 => (if t409 = 0 then ((some (([x18] : List Int) : List Int)).bind fun y410 => (if x4.length + y410.length < 17592186044416 then (impl_LastMoves.l0 k (x4 ++ y410) x17 (wrap64 (x18 + 1)) x395000 x395001) else (none))) else (impl_LastMoves.l0 k x4 x17 (wrap64 (x18 + 1)) x395000 x395001))) else (none)))) else (some (x4, true))
end
def impl_LastMoves.f (k : Nat) (a0_0 : Int) (l0_1 : List Int) : Option (List Int × Bool) := (impl_isLadder.f a0_0 l0_1).bind fun t395 => (if t395 = true then ((impl_needless.f k a0_0 l0_1).bind fun t396 => (impl_LastMoves.j0 k (t396 != 0) a0_0 l0_1)) else (impl_LastMoves.j0 k true a0_0 l0_1))
def impl_LastMoves.T7 : Bool × List (List Nat × List Nat) := (true, [([], []), ([0], [0]), ([], []), ([2], [2]), ([3], [3]), ([], []), ([5], [5]), ([4, 6, 4], [4, 6]), ([1, 7], [1, 7]), ([8, 7], [8]), ([9], [9])])
def impl_LastMoves.B7 : List Nat := [0, 1, 0, 4, 12, 0, 32, 124, 255, 511, 1023]
theorem impl_LastMoves.tab7 : rtab .any (opsOf Try.f64 7) = impl_LastMoves.T7 := by kernel_rfl
theorem impl_LastMoves.bits7 : waitsOk impl_LastMoves.T7.2 impl_LastMoves.B7 = true := by kernel_rfl
set_option maxHeartbeats 8000000 in
set_option maxRecDepth 100000 in
theorem impl_LastMoves.calls (k : Nat) (a0_0 : Int) (A0_1 : Option Addr) (c0_1 : Nat) (l0_1 : List Int) (r1 : List Int) (r2 : Bool) (w : World) (hr0_1 : Kd.C (Kd.int .i64) w A0_1 l0_1.length l0_1) (hc0_1 : l0_1.length ≤ c0_1) (h : impl_LastMoves.f k a0_0 l0_1 = some (r1, r2)) :
    Calls Try.prog 64 #[.agg #[.int .i64 a0_0, .slice A0_1 l0_1.length c0_1]] w fun e w' => ∃ v0_ : Value, e = .returned (.tuple #[v0_, .bool r2]) ∧ Kd.R (Kd.int .i64) 3 w' w.heap.size (fun _ => True) v0_ r1 ∧ Below w.heap.size w w' := by
  have hu26 := Try.underlying26
  have HR0_1 := Aside0.mk hr0_1
  have HC0_1 := Aside0.mk hc0_1
  clear hr0_1 hc0_1
  have HB := Aside0.mk (Below.refl w.heap.size w)
  have H : ((impl_isLadder.f a0_0 l0_1).bind fun t395 => (if t395 = true then ((impl_needless.f k a0_0 l0_1).bind fun t396 => (impl_LastMoves.j0 k (t396 != 0) a0_0 l0_1)) else (impl_LastMoves.j0 k true a0_0 l0_1))) = some (r1, r2) := h
  clear h
  have HC2 := Aside0.mk H
  clear H
  go_enter Try.func64, Try.ntmps64
  go_upto_region 1 with (first | ((with_reducible refine gate_dst (N := 1) rfl ?_); refine bx 1 #[.int .i64 a0_0, .slice A0_1 l0_1.length c0_1] 26 ?_; intro gb394 hg w3 hbox hb; have BK394 := Aside0.mk (hbox); have GW394 := gE hg HB; have GE394 := gE hg HB; replace HB := uD HB hb; clear hb hbox hg))
  (try simp only [Act.put, List.setIfInBounds_toArray, List.set_cons_zero, List.set_cons_succ])
  go_cut [13] (fun v13 wc => ∃ (kq : Nat) (x13_1 : Bool), v13 = .bool x13_1 ∧ Aside0 (impl_LastMoves.j0 kq x13_1 a0_0 l0_1 = some (r1, r2)) ∧ Aside0 (kq ≤ k) ∧ Aside0 (wc.heap[gb394]? = some (.cells #[.int .i64 a0_0, (.slice A0_1 l0_1.length c0_1)] 26 (0, 0))) ∧ Aside0 (Below w.heap.size w wc))
  case first =>
    have H := HC2.out
    clear HC2
    replace H := Option.bind_eq_some_iff.mp H
    obtain ⟨t395, A40, H⟩ := H
    replace H : (if t395 = true then ((impl_needless.f k a0_0 l0_1).bind fun t396 => (impl_LastMoves.j0 k (t396 != 0) a0_0 l0_1)) else (impl_LastMoves.j0 k true a0_0 l0_1)) = some (r1, r2) := H
    have A4 := Aside0.mk A40
    clear A40
    by_cases c5 : t395 = true
    · subst c5
      have H1 : ((impl_needless.f k a0_0 l0_1).bind fun t396 => (impl_LastMoves.j0 k (t396 != 0) a0_0 l0_1)) = some (r1, r2) := by rw [if_pos rfl] at H; exact H
      clear H
      have H := H1
      clear H1
      replace H := Option.bind_eq_some_iff.mp H
      obtain ⟨t396, A60, H⟩ := H
      replace H : (impl_LastMoves.j0 k (t396 != 0) a0_0 l0_1) = some (r1, r2) := H
      have A6 := Aside0.mk A60
      clear A60
      have H' := Aside0.mk H
      clear H
      have hcz7_0 := cl BK394 0
      have hcz7_1 := cl BK394 1
      have hfz7_0 := blk_frozen BK394.out 0
      have hfz7_1 := blk_frozen BK394.out 1
      go_wp2_with (first | ((with_reducible refine gate_callee (f := 93) rfl ?_); refine gs (some 7) Try.func93 #[.agg #[.int .i64 a0_0, .slice A0_1 l0_1.length c0_1]] ?_; (with_reducible refine (impl_isLadder.calls a0_0 _ _ l0_1 true _ ?side1 ?side2 A4.out).mono ?_); (case side1 => exact qC (Kd.C_below HR0_1.out HB.out)); (case side2 => exact HC0_1.out); rintro e w8 ⟨rfl, hb⟩; refine ⟨_, rfl, ?_⟩; replace BK394 := uB BK394 hb; replace HB := uD HB hb; (try clear hb); (try clear hb2); (try clear hk); (try clear hi); have hcz9_0 := cl BK394 0; have hcz9_1 := cl BK394 1; have hfz9_0 := blk_frozen BK394.out 0; have hfz9_1 := blk_frozen BK394.out 1) | (go_at_call 139; (with_reducible refine (impl_needless.calls k a0_0 _ _ l0_1 t396 _ ?side1 ?side2 A6.out).mono ?_); (case side1 => exact qC (Kd.C_below HR0_1.out HB.out)); (case side2 => exact HC0_1.out); rintro e w10 ⟨rfl, hb⟩; replace BK394 := uB BK394 hb; replace HB := uD HB hb; (try clear hb); (try clear hb2); (try clear hk); (try clear hi)))
      go_meet
      case rel => exact ⟨_, ((t396 != 0)), (by first | rfl | (simp; done) | (simp [*]; done) | (simp [bne]; done)), H', ⟨by first | omega | exact Nat.le_refl _⟩, ⟨qB BK394⟩, ⟨qD HB⟩⟩
    · replace c5 := Bool.eq_false_iff.mpr c5
      subst c5
      have H1 : (impl_LastMoves.j0 k true a0_0 l0_1) = some (r1, r2) := by rw [if_neg (show ¬ (false = true) by decide)] at H; exact H
      clear H
      have H := H1
      clear H1
      have H' := Aside0.mk H
      clear H
      have hcz11_0 := cl BK394 0
      have hcz11_1 := cl BK394 1
      have hfz11_0 := blk_frozen BK394.out 0
      have hfz11_1 := blk_frozen BK394.out 1
      go_wp2_with (first | ((with_reducible refine gate_callee (f := 93) rfl ?_); refine gs (some 7) Try.func93 #[.agg #[.int .i64 a0_0, .slice A0_1 l0_1.length c0_1]] ?_; (with_reducible refine (impl_isLadder.calls a0_0 _ _ l0_1 false _ ?side1 ?side2 A4.out).mono ?_); (case side1 => exact qC (Kd.C_below HR0_1.out HB.out)); (case side2 => exact HC0_1.out); rintro e w12 ⟨rfl, hb⟩; refine ⟨_, rfl, ?_⟩; replace BK394 := uB BK394 hb; replace HB := uD HB hb; (try clear hb); (try clear hb2); (try clear hk); (try clear hi)))
      go_meet
      case rel => exact ⟨_, (true), (by first | rfl | (simp; done) | (simp [*]; done) | (simp [bne]; done)), H', ⟨by first | omega | exact Nat.le_refl _⟩, ⟨qB BK394⟩, ⟨qD HB⟩⟩
  case rest =>
    clear HC2
    try clear p2
    try clear c5
    try clear c6
    try clear c9
    try clear hcz11_0
    try clear hcz11_1
    try clear hcz7_0
    try clear hcz7_1
    try clear hcz9_0
    try clear hcz9_1
    try clear hfz11_0
    try clear hfz11_1
    try clear hfz7_0
    try clear hfz7_1
    try clear hfz9_0
    try clear hfz9_1
    obtain ⟨kq, x13_1, rfl, HA, HJ1, BK394, HB⟩ := hcut
    cases kq with
    | zero => exact absurd HA.out (by simp [impl_LastMoves.j0])
    | succ kj1 =>
      have H := HA.out
      clear HA
      simp only [impl_LastMoves.j0] at H
      by_cases c13 : x13_1 = true
      · subst c13
        have H1 : (some (([] : List Int), false)) = some (r1, r2) := by rw [if_pos rfl] at H; exact H
        clear H
        have H := H1
        clear H1
        simp only [Option.some.injEq, Prod.mk.injEq] at H
        obtain ⟨rfl, rfl⟩ := H
        go_wp2
        go_ret2
        exact ⟨_, by first | rfl | (simp [errW_none, errW_some] <;> rfl) | (simp [*, errW_none, errW_some] <;> rfl), by first | exact Kd.R_nil _ _ _ _ _ | exact Kd.N_nil _ _ _ _ _ | exact Kd.V_nil _ _ _ _ _ | exact Kd.Q_nil _ _ _ _ _ | exact Kd.S_nil _ _ _ _ _, qD HB⟩
      · replace c13 := Bool.eq_false_iff.mpr c13
        subst c13
        have H1 : (impl_LastMoves.l0 kj1 (([] : List Int)) (wrap64 (a0_0 - 1)) 0 a0_0 l0_1) = some (r1, r2) := by rw [if_neg (show ¬ (false = true) by decide)] at H; exact H
        clear H
        have H := H1
        clear H1
        obtain ⟨y397, hy397⟩ : ∃ y_ : List Int, y_ = (([] : List Int)) := ⟨_, rfl⟩
        replace H : (impl_LastMoves.l0 kj1 y397 (wrap64 (a0_0 - 1)) 0 a0_0 l0_1) = some (r1, r2) := by first | (rw [hy397]; with_reducible exact H) | (have H2_ := (Option.bind_some _ _).symm.trans H; rw [hy397]; with_reducible exact H2_) | (have H2_ := (Option.bind_some _ _).symm.trans H; with_reducible exact H2_) | with_reducible exact H | (rw [hy397]; exact H) | exact H
        have Ny397 := Aside0.mk hy397
        clear hy397
        have H' := Aside0.mk H
        clear H
        go_wp2_with (first | ((with_reducible refine gate_dst (N := 14) rfl ?_); refine Kd.R_lit (Kd.int .i64) _ 3 ?hg (N := 14) ?hd (xs := ([] : List Int)) (inner := []) (ok := fun _ => True) (okp := fun _ => True) ?hr ?hp (fun _ hk => hk) trivial (Below.refl _ _) (Nat.le_refl _) (by simp) ?_; (case hd => rfl); (case hg => rfl); (case hr => first | (go_simp; done) | (go_simp; rfl)); (case hp => exact (Reps.none _ _)); intro v398 w14 ho15 hb hg_ hnew_; clear hg_ hnew_; (first | rw [← Ny397.out] at ho15 | (simp only [Int.reduceToNat] at ho15; rw [← Ny397.out] at ho15)); have HO399 := Aside0.mk (Kd.R_lower ho15 (below_size (qD HB))); replace BK394 := uB BK394 hb; replace HB := uD HB hb; clear hb ho15; have hcz16_0 := cl BK394 0; have hcz16_1 := cl BK394 1; have hfz16_0 := blk_frozen BK394.out 0; have hfz16_1 := blk_frozen BK394.out 1))
        go_loopg [4, 18] kj1 (fun kq v4 v18 w' => ∃ (x4_2 : List Int) (x18_2 : Int), v18 = .int .i64 x18_2 ∧ Aside0 (impl_LastMoves.l0 kq x4_2 (wrap64 (a0_0 - 1)) x18_2 a0_0 l0_1 = some (r1, r2)) ∧ Aside0 (kq ≤ kj1) ∧ Aside0 (Kd.R (Kd.int .i64) 3 w' w.heap.size (fun _ => True) v4 x4_2) ∧ Aside0 (w'.heap[gb394]? = some (.cells #[.int .i64 a0_0, (.slice A0_1 l0_1.length c0_1)] 26 (0, 0))) ∧ Aside0 (Below w.heap.size w w'))
        case atStart => exact ⟨(y397), (0), (by first | rfl | (simp; done) | (simp [*]; done) | (simp [bne]; done)), H', ⟨Nat.le_refl _⟩, ⟨qR HO399⟩, ⟨qB BK394⟩, ⟨qD HB⟩⟩
        case round =>
          clear H'
          try clear c1
          try clear p2
          try clear c5
          try clear c6
          try clear p6
          try clear c9
          try clear c13
          try clear hcz11_0
          try clear hcz11_1
          try clear hcz16_0
          try clear hcz16_1
          try clear hcz7_0
          try clear hcz7_1
          try clear hcz9_0
          try clear hcz9_1
          try clear hfz11_0
          try clear hfz11_1
          try clear hfz16_0
          try clear hfz16_1
          try clear hfz7_0
          try clear hfz7_1
          try clear hfz9_0
          try clear hfz9_1
          try clear p2
          obtain ⟨x4_2, x18_2, rfl, HA, HK2, HO_4, BK394, HB⟩ := hrel
          cases gk with
          | zero => exact absurd HA.out (by simp [impl_LastMoves.l0])
          | succ k2 =>
            have H := HA.out
            clear HA
            simp only [impl_LastMoves.l0] at H
            by_cases c17 : x18_2 < (wrap64 (a0_0 - 1))
            · rw [if_pos c17] at H
              have c17b0 : decide (x18_2 < (wrap64 (a0_0 - 1))) = true := decide_eq_true c17
              clear c17
              replace H := Option.bind_eq_some_iff.mp H
              obtain ⟨t400, A180, H⟩ := H
              replace H : ((some (([x18_2] : List Int) : List Int)).bind fun y403 => (if t400.length + y403.length < 17592186044416 then ((impl_needless.f k2 a0_0 (t400 ++ y403)).bind fun t409 => (if t409 = 0 then ((some (([x18_2] : List Int) : List Int)).bind fun y410 => (if x4_2.length + y410.length < 17592186044416 then (impl_LastMoves.l0 k2 (x4_2 ++ y410) (wrap64 (a0_0 - 1)) (wrap64 (x18_2 + 1)) a0_0 l0_1) else (none))) else (impl_LastMoves.l0 k2 x4_2 (wrap64 (a0_0 - 1)) (wrap64 (x18_2 + 1)) a0_0 l0_1))) else (none))) = some (r1, r2) := H
              have A18 := Aside0.mk A180
              clear A180
              obtain ⟨y403, hy403⟩ : ∃ y_ : List Int, y_ = (([x18_2] : List Int)) := ⟨_, rfl⟩
              replace H : (if t400.length + y403.length < 17592186044416 then ((impl_needless.f k2 a0_0 (t400 ++ y403)).bind fun t409 => (if t409 = 0 then ((some (([x18_2] : List Int) : List Int)).bind fun y410 => (if x4_2.length + y410.length < 17592186044416 then (impl_LastMoves.l0 k2 (x4_2 ++ y410) (wrap64 (a0_0 - 1)) (wrap64 (x18_2 + 1)) a0_0 l0_1) else (none))) else (impl_LastMoves.l0 k2 x4_2 (wrap64 (a0_0 - 1)) (wrap64 (x18_2 + 1)) a0_0 l0_1))) else (none)) = some (r1, r2) := by first | (rw [hy403]; with_reducible exact H) | (have H2_ := (Option.bind_some _ _).symm.trans H; rw [hy403]; with_reducible exact H2_) | (have H2_ := (Option.bind_some _ _).symm.trans H; with_reducible exact H2_) | with_reducible exact H | (rw [hy403]; exact H) | exact H
              have Ny403 := Aside0.mk hy403
              clear hy403
              by_cases c19 : t400.length + y403.length < 17592186044416
              · rw [if_pos c19] at H
                have LMc19 := Aside0.mk c19
                clear c19
                obtain ⟨y406, hy406⟩ : ∃ y_ : List Int, y_ = (t400 ++ y403) := ⟨_, rfl⟩
                replace H : ((impl_needless.f k2 a0_0 y406).bind fun t409 => (if t409 = 0 then ((some (([x18_2] : List Int) : List Int)).bind fun y410 => (if x4_2.length + y410.length < 17592186044416 then (impl_LastMoves.l0 k2 (x4_2 ++ y410) (wrap64 (a0_0 - 1)) (wrap64 (x18_2 + 1)) a0_0 l0_1) else (none))) else (impl_LastMoves.l0 k2 x4_2 (wrap64 (a0_0 - 1)) (wrap64 (x18_2 + 1)) a0_0 l0_1))) = some (r1, r2) := by first | (rw [hy406]; with_reducible exact H) | (have H2_ := (Option.bind_some _ _).symm.trans H; rw [hy406]; with_reducible exact H2_) | (have H2_ := (Option.bind_some _ _).symm.trans H; with_reducible exact H2_) | with_reducible exact H | (rw [hy406]; exact H) | exact H
                have Ny406 := Aside0.mk hy406
                clear hy406
                replace H := Option.bind_eq_some_iff.mp H
                obtain ⟨t409, A200, H⟩ := H
                replace H : (if t409 = 0 then ((some (([x18_2] : List Int) : List Int)).bind fun y410 => (if x4_2.length + y410.length < 17592186044416 then (impl_LastMoves.l0 k2 (x4_2 ++ y410) (wrap64 (a0_0 - 1)) (wrap64 (x18_2 + 1)) a0_0 l0_1) else (none))) else (impl_LastMoves.l0 k2 x4_2 (wrap64 (a0_0 - 1)) (wrap64 (x18_2 + 1)) a0_0 l0_1)) = some (r1, r2) := H
                have A20 := Aside0.mk A200
                clear A200
                by_cases c21 : t409 = 0
                · rw [if_pos c21] at H
                  have c21b0 : (t409 == 0) = true := beq_iff_eq.mpr c21
                  have c21b1 : (t409 != 0) = false := bne_eq_false_iff_eq.mpr c21
                  clear c21
                  obtain ⟨y410, hy410⟩ : ∃ y_ : List Int, y_ = (([x18_2] : List Int)) := ⟨_, rfl⟩
                  replace H : (if x4_2.length + y410.length < 17592186044416 then (impl_LastMoves.l0 k2 (x4_2 ++ y410) (wrap64 (a0_0 - 1)) (wrap64 (x18_2 + 1)) a0_0 l0_1) else (none)) = some (r1, r2) := by first | (rw [hy410]; with_reducible exact H) | (have H2_ := (Option.bind_some _ _).symm.trans H; rw [hy410]; with_reducible exact H2_) | (have H2_ := (Option.bind_some _ _).symm.trans H; with_reducible exact H2_) | with_reducible exact H | (rw [hy410]; exact H) | exact H
                  have Ny410 := Aside0.mk hy410
                  clear hy410
                  by_cases c22 : x4_2.length + y410.length < 17592186044416
                  · rw [if_pos c22] at H
                    have LMc22 := Aside0.mk c22
                    clear c22
                    obtain ⟨y413, hy413⟩ : ∃ y_ : List Int, y_ = (x4_2 ++ y410) := ⟨_, rfl⟩
                    replace H : (impl_LastMoves.l0 k2 y413 (wrap64 (a0_0 - 1)) (wrap64 (x18_2 + 1)) a0_0 l0_1) = some (r1, r2) := by first | (rw [hy413]; with_reducible exact H) | (have H2_ := (Option.bind_some _ _).symm.trans H; rw [hy413]; with_reducible exact H2_) | (have H2_ := (Option.bind_some _ _).symm.trans H; with_reducible exact H2_) | with_reducible exact H | (rw [hy413]; exact H) | exact H
                    have Ny413 := Aside0.mk hy413
                    clear hy413
                    have H' := Aside0.mk H
                    clear H
                    try go_wp2
                    replace HO_4 := Aside0.mk (Kd.R_drew HO_4.out)
                    replace BK394 := Aside0.mk (blk_drew BK394.out)
                    replace HB := Aside0.mk (below_drew1 HB.out)
                    refine start_ (n := 11) (S := fun w' => w'.cell? ⟨gb394, 0, none⟩ = some (.int .i64 a0_0) ∧ w'.cell? ⟨gb394, 1, none⟩ = some (.slice A0_1 l0_1.length c0_1)) (ds := []) #[false, false, false, false, false, false, false, false, false, false, false] (by kernel_rfl) rfl rfl ⟨cl BK394 0, cl BK394 1⟩ (fun hHeld => ?_); refine with_tabW impl_LastMoves.tab7 impl_LastMoves.bits7 (fun HT_ HW_ => ?_)
                    generalize wr.drew = w23 at HO_4 BK394 HB hHeld ⊢
                    refine pu 0 (some 21) #[true, false, false, false, false, false, false, false, false, false, false] HT_ ?_
                    refine pu 2 (some 23) #[true, false, true, false, false, false, false, false, false, false, false] HT_ ?_
                    refine pu 5 (some 26) #[true, false, true, false, false, true, false, false, false, false, false] HT_ ?_
                    refine tk 1 (some 22) #[true, true, true, false, false, true, false, false, false, false, false] HT_ HW_ hHeld ?_
                    refine tk 3 (some 24) #[true, true, true, true, false, true, false, false, false, false, false] HT_ HW_ hHeld ?_
                    refine join_ (σ := Value × Value) 4 #[true, true, true, true, true, true, true, false, false, false, false] (fun s_ => [(25, s_.1), (27, s_.2)]) (fun s_ w' => (w'.cell? ⟨gb394, 0, none⟩ = some (.int .i64 a0_0) ∧ w'.cell? ⟨gb394, 1, none⟩ = some (.slice A0_1 l0_1.length c0_1)) ∧ (Kd.R (Kd.int .i64) 3 w' w.heap.size (fun k_ => some k_ ≠ (s_.2 : Value).ownBlock ∧ some k_ ≠ (u4 : Value).ownBlock) s_.1 t400) ∧ (Kd.R (Kd.int .i64) 3 w' w.heap.size (fun k_ => some k_ ≠ (s_.1 : Value).ownBlock ∧ some k_ ≠ (u4 : Value).ownBlock) s_.2 y403) ∧ (Kd.R (Kd.int .i64) 3 w' w.heap.size (fun k_ => some k_ ≠ (s_.1 : Value).ownBlock ∧ some k_ ≠ (s_.2 : Value).ownBlock) u4 x4_2) ∧ (w'.heap[gb394]? = some (.cells #[.int .i64 a0_0, .slice A0_1 l0_1.length c0_1] 26 (0, 0))) ∧ (Below w.heap.size w w')) ?_ ?_
                    rotate_left
                    · intro hCont
                      refine two_ (i := 4) (j := 6) (Ni := some 25) (Nj := some 27) #[true, true, true, true, true, true, false, false, false, false, false] #[true, true, true, true, false, true, true, false, false, false, false] rfl rfl rfl rfl (two_of HT_.out (by kernel_rfl)) (by decide) (by decide) (fun K hK => ?_) (fun K hK => ?_)
                      · skip
                        refine gt Try.func94 #[.slice A0_1 l0_1.length c0_1] ?_
                        with_reducible refine (slices_Clone_int_int.calls _ _ l0_1 t400 _ ?side1 ?side2 A18.out).mono ?_
                        (case side1 => exact qC (Kd.C_below HR0_1.out HB.out))
                        (case side2 => exact HC0_1.out)
                        rintro e w24 ⟨v401, rfl, ho0, hb⟩
                        refine ⟨_, rfl, ?_⟩
                        have HO402 := Aside0.mk (Kd.R_lower (Kd.R_new' ho0 (Kd.R_lt (qR HO_4))) (below_size (qD HB)))
                        replace HO_4 := eR HO_4 ho0 hb
                        replace BK394 := uB BK394 hb
                        replace HB := uD HB hb
                        (try clear hb)
                        (try clear hb2)
                        (try clear hk)
                        (try clear hi)
                        (try clear ho0)
                        refine hK.out _ _ ⟨cl BK394 0, cl BK394 1⟩ (fun hHeld => ?_)
                        clear hK K
                        refine nm (some 25) ?_
                        refine one_ (i := 6) (N := some 27) #[true, true, true, true, true, true, true, false, false, false, false] rfl rfl (one_of HT_.out (by kernel_rfl)) (by decide) (fun K hK => ?_)
                        refine Kd.R_lit_step (Kd.int .i64) _ 3 ?hg (N := 27) ?hd (xs := ([x18_2] : List Int)) (inner := [.int .i64 x18_2]) (ok := fun _ => True) (okp := fun _ => True) ?hr ?hp (fun _ hk => hk) trivial (Below.refl _ _) (Nat.le_refl _) (by simp) ?_; (case hd => rfl); (case hg => rfl); (case hr => first | (go_simp; done) | (go_simp; rfl)); (case hp => exact (Reps.one (show Kd.M (Kd.int .i64) _ _ _ x18_2 [.int .i64 x18_2] from rfl) (Reps.none _ _)))
                        intro v404 w25 ho26 hb hg_ hnew_
                        clear hg_ hnew_
                        (first | rw [← Ny403.out] at ho26 | (simp only [Int.reduceToNat] at ho26; rw [← Ny403.out] at ho26))
                        have HO405 := Aside0.mk (Kd.R_lower (Kd.R_new' (Kd.R_new' ho26 (Kd.R_lt (qR HO_4))) (Kd.R_lt (qR HO402))) (below_size (qD HB)))
                        replace HO_4 := Aside0.mk (Kd.R_elder' (qR HO_4) (Kd.R_base ho26) hb)
                        replace HO402 := Aside0.mk (Kd.R_elder' (qR HO402) (Kd.R_base ho26) hb)
                        replace BK394 := uB BK394 hb
                        replace HB := uD HB hb
                        clear hb ho26
                        refine hK.out _ _ ⟨cl BK394 0, cl BK394 1⟩ (fun hHeld => ?_)
                        clear hK K
                        refine nm (some 27) ?_
                        exact norm_ (by simp only [putAll, Act.put, List.setIfInBounds_toArray, List.set_cons_zero, List.set_cons_succ]) (hCont (v401, v404) _ ⟨hHeld, (mR HO402 (fun _ hk => ⟨hk.2, hk.1.2⟩)), (mR HO405 (fun _ hk => ⟨hk.2, hk.1.2⟩)), (mR HO_4 (fun _ hk => ⟨hk.1.2, hk.2⟩)), (qB BK394), (qD HB)⟩)
                      · skip
                        refine Kd.R_lit_step (Kd.int .i64) _ 3 ?hg (N := 27) ?hd (xs := ([x18_2] : List Int)) (inner := [.int .i64 x18_2]) (ok := fun _ => True) (okp := fun _ => True) ?hr ?hp (fun _ hk => hk) trivial (Below.refl _ _) (Nat.le_refl _) (by simp) ?_; (case hd => rfl); (case hg => rfl); (case hr => first | (go_simp; done) | (go_simp; rfl)); (case hp => exact (Reps.one (show Kd.M (Kd.int .i64) _ _ _ x18_2 [.int .i64 x18_2] from rfl) (Reps.none _ _)))
                        intro v404 w24 ho25 hb hg_ hnew_
                        clear hg_ hnew_
                        (first | rw [← Ny403.out] at ho25 | (simp only [Int.reduceToNat] at ho25; rw [← Ny403.out] at ho25))
                        have HO405 := Aside0.mk (Kd.R_lower (Kd.R_new' ho25 (Kd.R_lt (qR HO_4))) (below_size (qD HB)))
                        replace HO_4 := Aside0.mk (Kd.R_elder' (qR HO_4) (Kd.R_base ho25) hb)
                        replace BK394 := uB BK394 hb
                        replace HB := uD HB hb
                        clear hb ho25
                        refine hK.out _ _ ⟨cl BK394 0, cl BK394 1⟩ (fun hHeld => ?_)
                        clear hK K
                        refine nm (some 27) ?_
                        refine one_ (i := 4) (N := some 25) #[true, true, true, true, true, true, true, false, false, false, false] rfl rfl (one_of HT_.out (by kernel_rfl)) (by decide) (fun K hK => ?_)
                        refine gt Try.func94 #[.slice A0_1 l0_1.length c0_1] ?_
                        with_reducible refine (slices_Clone_int_int.calls _ _ l0_1 t400 _ ?side1 ?side2 A18.out).mono ?_
                        (case side1 => exact qC (Kd.C_below HR0_1.out HB.out))
                        (case side2 => exact HC0_1.out)
                        rintro e w26 ⟨v401, rfl, ho0, hb⟩
                        refine ⟨_, rfl, ?_⟩
                        have HO402 := Aside0.mk (Kd.R_lower (Kd.R_new' (Kd.R_new' ho0 (Kd.R_lt (qR HO_4))) (Kd.R_lt (qR HO405))) (below_size (qD HB)))
                        replace HO_4 := eR HO_4 ho0 hb
                        replace HO405 := eR HO405 ho0 hb
                        replace BK394 := uB BK394 hb
                        replace HB := uD HB hb
                        (try clear hb)
                        (try clear hb2)
                        (try clear hk)
                        (try clear hi)
                        (try clear ho0)
                        refine hK.out _ _ ⟨cl BK394 0, cl BK394 1⟩ (fun hHeld => ?_)
                        clear hK K
                        refine nm (some 25) ?_
                        exact norm_ (by simp only [putAll, Act.put, List.setIfInBounds_toArray, List.set_cons_zero, List.set_cons_succ]) (hCont (v401, v404) _ ⟨hHeld, (mR HO402 (fun _ hk => ⟨hk.2, hk.1.2⟩)), (mR HO405 (fun _ hk => ⟨hk.2, hk.1.2⟩)), (mR HO_4 (fun _ hk => ⟨hk.2, hk.1.2⟩)), (qB BK394), (qD HB)⟩)
                    rintro ⟨v401, v404⟩ w27 ⟨hS_, h0_, h1_, h2_, h3_, h4_⟩
                    have n0_ : Aside0 (Kd.R (Kd.int .i64) 3 w27 w.heap.size (fun k_ => some k_ ≠ (v404 : Value).ownBlock ∧ some k_ ≠ (u4 : Value).ownBlock) v401 t400) := ⟨h0_⟩
                    have n1_ : Aside0 (Kd.R (Kd.int .i64) 3 w27 w.heap.size (fun k_ => some k_ ≠ (v401 : Value).ownBlock ∧ some k_ ≠ (u4 : Value).ownBlock) v404 y403) := ⟨h1_⟩
                    have n2_ : Aside0 (Kd.R (Kd.int .i64) 3 w27 w.heap.size (fun k_ => some k_ ≠ (v401 : Value).ownBlock ∧ some k_ ≠ (v404 : Value).ownBlock) u4 x4_2) := ⟨h2_⟩
                    have n3_ : Aside0 (w27.heap[gb394]? = some (.cells #[.int .i64 a0_0, .slice A0_1 l0_1.length c0_1] 26 (0, 0))) := ⟨h3_⟩
                    have n4_ : Aside0 (Below w.heap.size w w27) := ⟨h4_⟩
                    clear HO_4
                    clear BK394
                    clear HB
                    clear h0_ h1_ h2_ h3_ h4_
                    have HO402 := n0_
                    have HO405 := n1_
                    have HO_4 := n2_
                    have BK394 := n3_
                    have HB := n4_
                    clear n0_ n1_ n2_ n3_ n4_
                    have hHeld : w27.cell? ⟨gb394, 0, none⟩ = some (.int .i64 a0_0) ∧ w27.cell? ⟨gb394, 1, none⟩ = some (.slice A0_1 l0_1.length c0_1) := hS_
                    obtain ⟨Ao29, co29, eo29⟩ := Kd.R_slice HO405.out
                    (first | subst eo29 | (injection eo29 with f1_ f2_ f3_; have f4_ := f1_.symm; have f5_ := f3_.symm; clear f1_ f2_ f3_; subst f4_; subst f5_))
                    refine norm_ (a' := ?_) ?_ ?_
                    rotate_left
                    · simp only [putAll, Act.put, List.setIfInBounds_toArray, List.set_cons_zero, List.set_cons_succ]
                      rfl
                    refine one_ (i := 7) (N := some 28) #[true, true, true, true, true, true, true, true, false, false, false] rfl rfl (one_of HT_.out (by kernel_rfl)) (by decide) (fun K hK => ?_)
                    refine Kd.R_append_rows_step (Kd.int .i64) (w0 := w) w.heap.size (by rfl) (.tmp 25) (.tmp 27) 22 3 (.int .i64 0) 8 rfl Try.underlying22 info3 rfl (by decide) (by omega) v401 t400 y403 _ _ _ (fun k_ => some k_ ≠ (u4 : Value).ownBlock ∧ some k_ ≠ (.slice Ao29 y403.length co29 : Value).ownBlock) (fun _ => False) rfl rfl ?aO ?aR (fun _ _ h => h) (fun _ h => h.elim) ?aF ?aB ?aS ?aL ?_
                    (case aR => exact qC (Kd.R_reads' HO405.out).2.2)
                    (case aB => exact (qD HB))
                    (case aF => exact (fun k_ hk => ⟨Kd.fresh' (Kd.R_lt (qR HO_4)) k_ hk, Kd.fresh' (Kd.R_lt (qR HO405)) k_ hk⟩))
                    (case aO => exact (mR HO402 (fun _ hk => ⟨hk.2, hk.1⟩)))
                    (case aS => exact (below_size (qD HB)))
                    (case aL => have := LMc19.out; omega)
                    intro v407 w28 ho hb hg hat
                    rw [← Ny406.out] at ho
                    replace HO_4 := Aside0.mk (Kd.R_after (ok := (fun k_ => some k_ ≠ (.slice Ao29 y403.length co29 : Value).ownBlock)) (mR HO_4 (fun _ hk => ⟨hk.2, hk.1⟩)) hg hat)
                    replace BK394 := Aside0.mk (blk_grown (g := gb394) (o := .cells #[.int .i64 a0_0, .slice A0_1 l0_1.length c0_1] 26 (0, 0)) (qB BK394) hg (Kd.R_ne HO402.out BK394.out (by decide)))
                    replace HO405 := Aside0.mk (Kd.R_after (ok := (fun k_ => some k_ ≠ (u4 : Value).ownBlock)) (mR HO405 (fun _ hk => ⟨hk.2, hk.1⟩)) hg hat)
                    replace HB := Aside0.mk (hb)
                    have HO408 := Aside0.mk (ho)
                    clear HO402
                    clear ho hb hg hat
                    obtain ⟨Ao30, co30, eo30⟩ := Kd.R_slice HO408.out
                    (first | subst eo30 | (injection eo30 with f1_ f2_ f3_; have f4_ := f1_.symm; have f5_ := f3_.symm; clear f1_ f2_ f3_; subst f4_; subst f5_))
                    refine hK.out _ _ ⟨cl BK394 0, cl BK394 1⟩ (fun hHeld => ?_)
                    clear hK K
                    refine nm (some 28) ?_
                    refine pu 8 (some 29) #[true, true, true, true, true, true, true, true, true, false, false] HT_ ?_
                    refine one_ (i := 9) (N := some 30) #[true, true, true, true, true, true, true, true, true, true, false] rfl rfl (one_of HT_.out (by kernel_rfl)) (by decide) (fun K hK => ?_)
                    refine gt Try.func139 #[.agg #[.int .i64 a0_0, .slice Ao30 y406.length co30]] ?_
                    with_reducible refine (impl_needless.calls k2 a0_0 _ _ y406 t409 _ ?side1 ?side2 A20.out).mono ?_
                    (case side1 => exact qC (Kd.R_reads' HO408.out).2.2)
                    (case side2 => exact (Kd.R_reads' HO408.out).2.1)
                    rintro e w31 ⟨rfl, hb⟩
                    refine ⟨_, rfl, ?_⟩
                    replace HO_4 := uR HO_4 hb
                    replace HO405 := uR HO405 hb
                    replace HO408 := uR HO408 hb
                    replace BK394 := uB BK394 hb
                    replace HB := uD HB hb
                    (try clear hb)
                    (try clear hb2)
                    (try clear hk)
                    (try clear hi)
                    refine hK.out _ _ ⟨cl BK394 0, cl BK394 1⟩ (fun hHeld => ?_)
                    clear hK K
                    refine nm (some 30) ?_
                    refine pu 10 (some 31) #[true, true, true, true, true, true, true, true, true, true, true] HT_ ?_
                    refine done_ (done_of HT_.out (by kernel_rfl)) ?_
                    try go_wp2_with (first | ((with_reducible refine gate_dst (N := 34) rfl ?_); refine Kd.R_lit (Kd.int .i64) _ 3 ?hg (N := 34) ?hd (xs := ([x18_2] : List Int)) (inner := [.int .i64 x18_2]) (ok := fun _ => True) (okp := fun _ => True) ?hr ?hp (fun _ hk => hk) trivial (Below.refl _ _) (Nat.le_refl _) (by simp) ?_; (case hd => rfl); (case hg => rfl); (case hr => first | (go_simp; done) | (go_simp; rfl)); (case hp => exact (Reps.one (show Kd.M (Kd.int .i64) _ _ _ x18_2 [.int .i64 x18_2] from rfl) (Reps.none _ _))); intro v411 w32 ho33 hb hg_ hnew_; clear hg_ hnew_; (first | rw [← Ny410.out] at ho33 | (simp only [Int.reduceToNat] at ho33; rw [← Ny410.out] at ho33)); have HO412 := Aside0.mk (Kd.R_lower (Kd.R_new' (Kd.R_new' (Kd.R_new' ho33 (Kd.R_lt (qR HO_4))) (Kd.R_lt (qR HO405))) (Kd.R_lt (qR HO408))) (below_size (qD HB))); replace HO_4 := Aside0.mk (Kd.R_elder' (qR HO_4) (Kd.R_base ho33) hb); replace HO405 := Aside0.mk (Kd.R_elder' (qR HO405) (Kd.R_base ho33) hb); replace HO408 := Aside0.mk (Kd.R_elder' (qR HO408) (Kd.R_base ho33) hb); replace BK394 := uB BK394 hb; replace HB := uD HB hb; clear hb ho33; obtain ⟨Ao35, co35, eo35⟩ := Kd.R_slice HO412.out; subst eo35) | ((with_reducible refine gate_builtin (b := .append) (xs := #[.tmp 32, .tmp 34]) rfl ?_); at_builtin; refine Kd.R_append_rows (Kd.int .i64) (w0 := w) w.heap.size rfl (.tmp 32) (.tmp 34) 22 3 (.int .i64 0) 8 rfl Try.underlying22 info3 rfl (by decide) (by omega) u4 x4_2 y410 _ _ _ (fun k_ => some k_ ≠ (.slice Ao29 y403.length co29 : Value).ownBlock ∧ some k_ ≠ (.slice Ao30 y406.length co30 : Value).ownBlock ∧ some k_ ≠ (.slice Ao35 y410.length co35 : Value).ownBlock) (fun _ => False) rfl rfl ?aO ?aR (fun _ _ h => h) (fun _ h => h.elim) ?aF ?aB ?aS ?aL ?_; (case aR => exact qC (Kd.R_reads' HO412.out).2.2); (case aB => exact (qD HB)); (case aF => exact (fun k_ hk => ⟨Kd.fresh' (Kd.R_lt (qR HO405)) k_ hk, Kd.fresh' (Kd.R_lt (qR HO408)) k_ hk, Kd.fresh' (Kd.R_lt (qR HO412)) k_ hk⟩)); (case aO => exact (mR HO_4 (fun _ hk => ⟨hk.1.1, ⟨hk.1.2, hk.2⟩⟩))); (case aS => exact (below_size (qD HB))); (case aL => have := LMc22.out; omega); intro v414 w34 ho hb hg hat; rw [← Ny413.out] at ho; replace BK394 := Aside0.mk (blk_grown (g := gb394) (o := .cells #[.int .i64 a0_0, .slice A0_1 l0_1.length c0_1] 26 (0, 0)) (qB BK394) hg (Kd.R_ne HO_4.out BK394.out (by decide))); replace HO405 := Aside0.mk (Kd.R_after (ok := (fun k_ => some k_ ≠ (.slice Ao30 y406.length co30 : Value).ownBlock ∧ some k_ ≠ (.slice Ao35 y410.length co35 : Value).ownBlock)) (mR HO405 (fun _ hk => ⟨⟨hk.1.2, hk.2⟩, hk.1.1⟩)) hg hat); replace HO408 := Aside0.mk (Kd.R_after (ok := (fun k_ => some k_ ≠ (.slice Ao29 y403.length co29 : Value).ownBlock ∧ some k_ ≠ (.slice Ao35 y410.length co35 : Value).ownBlock)) (mR HO408 (fun _ hk => ⟨⟨hk.1.2, hk.2⟩, hk.1.1⟩)) hg hat); replace HO412 := Aside0.mk (Kd.R_after (ok := (fun k_ => some k_ ≠ (.slice Ao29 y403.length co29 : Value).ownBlock ∧ some k_ ≠ (.slice Ao30 y406.length co30 : Value).ownBlock)) (mR HO412 (fun _ hk => ⟨⟨hk.1.2, hk.2⟩, hk.1.1.2⟩)) hg hat); replace HB := Aside0.mk (hb); have HO415 := Aside0.mk (ho); clear HO_4; clear ho hb hg hat))
                    go_roundg k2
                    case measure => have := HJ1.out; have := HK2.out; omega
                    case rel => exact ⟨(y413), (wrap64 (x18_2 + 1)), (by first | rfl | (simp; done) | (simp [*]; done) | (simp [bne]; done)), H', ⟨by have := HJ1.out; have := HK2.out; omega⟩, ⟨mR HO415 (fun _ hk => trivial)⟩, ⟨qB BK394⟩, ⟨qD HB⟩⟩
                  · rw [if_neg c22] at H
                    exact absurd H (by simp)
                · rw [if_neg c21] at H
                  have c21b0 : (t409 == 0) = false := beq_eq_false_iff_ne.mpr c21
                  have c21b1 : (t409 != 0) = true := bne_iff_ne.mpr c21
                  have H' := Aside0.mk H
                  clear H
                  try go_wp2
                  replace HO_4 := Aside0.mk (Kd.R_drew HO_4.out)
                  replace BK394 := Aside0.mk (blk_drew BK394.out)
                  replace HB := Aside0.mk (below_drew1 HB.out)
                  refine start_ (n := 11) (S := fun w' => w'.cell? ⟨gb394, 0, none⟩ = some (.int .i64 a0_0) ∧ w'.cell? ⟨gb394, 1, none⟩ = some (.slice A0_1 l0_1.length c0_1)) (ds := []) #[false, false, false, false, false, false, false, false, false, false, false] (by kernel_rfl) rfl rfl ⟨cl BK394 0, cl BK394 1⟩ (fun hHeld => ?_); refine with_tabW impl_LastMoves.tab7 impl_LastMoves.bits7 (fun HT_ HW_ => ?_)
                  generalize wr.drew = w36 at HO_4 BK394 HB hHeld ⊢
                  refine pu 0 (some 21) #[true, false, false, false, false, false, false, false, false, false, false] HT_ ?_
                  refine pu 2 (some 23) #[true, false, true, false, false, false, false, false, false, false, false] HT_ ?_
                  refine pu 5 (some 26) #[true, false, true, false, false, true, false, false, false, false, false] HT_ ?_
                  refine tk 1 (some 22) #[true, true, true, false, false, true, false, false, false, false, false] HT_ HW_ hHeld ?_
                  refine tk 3 (some 24) #[true, true, true, true, false, true, false, false, false, false, false] HT_ HW_ hHeld ?_
                  refine join_ (σ := Value × Value) 4 #[true, true, true, true, true, true, true, false, false, false, false] (fun s_ => [(25, s_.1), (27, s_.2)]) (fun s_ w' => (w'.cell? ⟨gb394, 0, none⟩ = some (.int .i64 a0_0) ∧ w'.cell? ⟨gb394, 1, none⟩ = some (.slice A0_1 l0_1.length c0_1)) ∧ (Kd.R (Kd.int .i64) 3 w' w.heap.size (fun k_ => some k_ ≠ (s_.2 : Value).ownBlock ∧ some k_ ≠ (u4 : Value).ownBlock) s_.1 t400) ∧ (Kd.R (Kd.int .i64) 3 w' w.heap.size (fun k_ => some k_ ≠ (s_.1 : Value).ownBlock ∧ some k_ ≠ (u4 : Value).ownBlock) s_.2 y403) ∧ (Kd.R (Kd.int .i64) 3 w' w.heap.size (fun k_ => some k_ ≠ (s_.1 : Value).ownBlock ∧ some k_ ≠ (s_.2 : Value).ownBlock) u4 x4_2) ∧ (w'.heap[gb394]? = some (.cells #[.int .i64 a0_0, .slice A0_1 l0_1.length c0_1] 26 (0, 0))) ∧ (Below w.heap.size w w')) ?_ ?_
                  rotate_left
                  · intro hCont
                    refine two_ (i := 4) (j := 6) (Ni := some 25) (Nj := some 27) #[true, true, true, true, true, true, false, false, false, false, false] #[true, true, true, true, false, true, true, false, false, false, false] rfl rfl rfl rfl (two_of HT_.out (by kernel_rfl)) (by decide) (by decide) (fun K hK => ?_) (fun K hK => ?_)
                    · skip
                      refine gt Try.func94 #[.slice A0_1 l0_1.length c0_1] ?_
                      with_reducible refine (slices_Clone_int_int.calls _ _ l0_1 t400 _ ?side1 ?side2 A18.out).mono ?_
                      (case side1 => exact qC (Kd.C_below HR0_1.out HB.out))
                      (case side2 => exact HC0_1.out)
                      rintro e w37 ⟨v401, rfl, ho0, hb⟩
                      refine ⟨_, rfl, ?_⟩
                      have HO402 := Aside0.mk (Kd.R_lower (Kd.R_new' ho0 (Kd.R_lt (qR HO_4))) (below_size (qD HB)))
                      replace HO_4 := eR HO_4 ho0 hb
                      replace BK394 := uB BK394 hb
                      replace HB := uD HB hb
                      (try clear hb)
                      (try clear hb2)
                      (try clear hk)
                      (try clear hi)
                      (try clear ho0)
                      refine hK.out _ _ ⟨cl BK394 0, cl BK394 1⟩ (fun hHeld => ?_)
                      clear hK K
                      refine nm (some 25) ?_
                      refine one_ (i := 6) (N := some 27) #[true, true, true, true, true, true, true, false, false, false, false] rfl rfl (one_of HT_.out (by kernel_rfl)) (by decide) (fun K hK => ?_)
                      refine Kd.R_lit_step (Kd.int .i64) _ 3 ?hg (N := 27) ?hd (xs := ([x18_2] : List Int)) (inner := [.int .i64 x18_2]) (ok := fun _ => True) (okp := fun _ => True) ?hr ?hp (fun _ hk => hk) trivial (Below.refl _ _) (Nat.le_refl _) (by simp) ?_; (case hd => rfl); (case hg => rfl); (case hr => first | (go_simp; done) | (go_simp; rfl)); (case hp => exact (Reps.one (show Kd.M (Kd.int .i64) _ _ _ x18_2 [.int .i64 x18_2] from rfl) (Reps.none _ _)))
                      intro v404 w38 ho39 hb hg_ hnew_
                      clear hg_ hnew_
                      (first | rw [← Ny403.out] at ho39 | (simp only [Int.reduceToNat] at ho39; rw [← Ny403.out] at ho39))
                      have HO405 := Aside0.mk (Kd.R_lower (Kd.R_new' (Kd.R_new' ho39 (Kd.R_lt (qR HO_4))) (Kd.R_lt (qR HO402))) (below_size (qD HB)))
                      replace HO_4 := Aside0.mk (Kd.R_elder' (qR HO_4) (Kd.R_base ho39) hb)
                      replace HO402 := Aside0.mk (Kd.R_elder' (qR HO402) (Kd.R_base ho39) hb)
                      replace BK394 := uB BK394 hb
                      replace HB := uD HB hb
                      clear hb ho39
                      refine hK.out _ _ ⟨cl BK394 0, cl BK394 1⟩ (fun hHeld => ?_)
                      clear hK K
                      refine nm (some 27) ?_
                      exact norm_ (by simp only [putAll, Act.put, List.setIfInBounds_toArray, List.set_cons_zero, List.set_cons_succ]) (hCont (v401, v404) _ ⟨hHeld, (mR HO402 (fun _ hk => ⟨hk.2, hk.1.2⟩)), (mR HO405 (fun _ hk => ⟨hk.2, hk.1.2⟩)), (mR HO_4 (fun _ hk => ⟨hk.1.2, hk.2⟩)), (qB BK394), (qD HB)⟩)
                    · skip
                      refine Kd.R_lit_step (Kd.int .i64) _ 3 ?hg (N := 27) ?hd (xs := ([x18_2] : List Int)) (inner := [.int .i64 x18_2]) (ok := fun _ => True) (okp := fun _ => True) ?hr ?hp (fun _ hk => hk) trivial (Below.refl _ _) (Nat.le_refl _) (by simp) ?_; (case hd => rfl); (case hg => rfl); (case hr => first | (go_simp; done) | (go_simp; rfl)); (case hp => exact (Reps.one (show Kd.M (Kd.int .i64) _ _ _ x18_2 [.int .i64 x18_2] from rfl) (Reps.none _ _)))
                      intro v404 w37 ho38 hb hg_ hnew_
                      clear hg_ hnew_
                      (first | rw [← Ny403.out] at ho38 | (simp only [Int.reduceToNat] at ho38; rw [← Ny403.out] at ho38))
                      have HO405 := Aside0.mk (Kd.R_lower (Kd.R_new' ho38 (Kd.R_lt (qR HO_4))) (below_size (qD HB)))
                      replace HO_4 := Aside0.mk (Kd.R_elder' (qR HO_4) (Kd.R_base ho38) hb)
                      replace BK394 := uB BK394 hb
                      replace HB := uD HB hb
                      clear hb ho38
                      refine hK.out _ _ ⟨cl BK394 0, cl BK394 1⟩ (fun hHeld => ?_)
                      clear hK K
                      refine nm (some 27) ?_
                      refine one_ (i := 4) (N := some 25) #[true, true, true, true, true, true, true, false, false, false, false] rfl rfl (one_of HT_.out (by kernel_rfl)) (by decide) (fun K hK => ?_)
                      refine gt Try.func94 #[.slice A0_1 l0_1.length c0_1] ?_
                      with_reducible refine (slices_Clone_int_int.calls _ _ l0_1 t400 _ ?side1 ?side2 A18.out).mono ?_
                      (case side1 => exact qC (Kd.C_below HR0_1.out HB.out))
                      (case side2 => exact HC0_1.out)
                      rintro e w39 ⟨v401, rfl, ho0, hb⟩
                      refine ⟨_, rfl, ?_⟩
                      have HO402 := Aside0.mk (Kd.R_lower (Kd.R_new' (Kd.R_new' ho0 (Kd.R_lt (qR HO_4))) (Kd.R_lt (qR HO405))) (below_size (qD HB)))
                      replace HO_4 := eR HO_4 ho0 hb
                      replace HO405 := eR HO405 ho0 hb
                      replace BK394 := uB BK394 hb
                      replace HB := uD HB hb
                      (try clear hb)
                      (try clear hb2)
                      (try clear hk)
                      (try clear hi)
                      (try clear ho0)
                      refine hK.out _ _ ⟨cl BK394 0, cl BK394 1⟩ (fun hHeld => ?_)
                      clear hK K
                      refine nm (some 25) ?_
                      exact norm_ (by simp only [putAll, Act.put, List.setIfInBounds_toArray, List.set_cons_zero, List.set_cons_succ]) (hCont (v401, v404) _ ⟨hHeld, (mR HO402 (fun _ hk => ⟨hk.2, hk.1.2⟩)), (mR HO405 (fun _ hk => ⟨hk.2, hk.1.2⟩)), (mR HO_4 (fun _ hk => ⟨hk.2, hk.1.2⟩)), (qB BK394), (qD HB)⟩)
                  rintro ⟨v401, v404⟩ w40 ⟨hS_, h0_, h1_, h2_, h3_, h4_⟩
                  have n0_ : Aside0 (Kd.R (Kd.int .i64) 3 w40 w.heap.size (fun k_ => some k_ ≠ (v404 : Value).ownBlock ∧ some k_ ≠ (u4 : Value).ownBlock) v401 t400) := ⟨h0_⟩
                  have n1_ : Aside0 (Kd.R (Kd.int .i64) 3 w40 w.heap.size (fun k_ => some k_ ≠ (v401 : Value).ownBlock ∧ some k_ ≠ (u4 : Value).ownBlock) v404 y403) := ⟨h1_⟩
                  have n2_ : Aside0 (Kd.R (Kd.int .i64) 3 w40 w.heap.size (fun k_ => some k_ ≠ (v401 : Value).ownBlock ∧ some k_ ≠ (v404 : Value).ownBlock) u4 x4_2) := ⟨h2_⟩
                  have n3_ : Aside0 (w40.heap[gb394]? = some (.cells #[.int .i64 a0_0, .slice A0_1 l0_1.length c0_1] 26 (0, 0))) := ⟨h3_⟩
                  have n4_ : Aside0 (Below w.heap.size w w40) := ⟨h4_⟩
                  clear HO_4
                  clear BK394
                  clear HB
                  clear h0_ h1_ h2_ h3_ h4_
                  have HO402 := n0_
                  have HO405 := n1_
                  have HO_4 := n2_
                  have BK394 := n3_
                  have HB := n4_
                  clear n0_ n1_ n2_ n3_ n4_
                  have hHeld : w40.cell? ⟨gb394, 0, none⟩ = some (.int .i64 a0_0) ∧ w40.cell? ⟨gb394, 1, none⟩ = some (.slice A0_1 l0_1.length c0_1) := hS_
                  obtain ⟨Ao42, co42, eo42⟩ := Kd.R_slice HO405.out
                  (first | subst eo42 | (injection eo42 with f1_ f2_ f3_; have f4_ := f1_.symm; have f5_ := f3_.symm; clear f1_ f2_ f3_; subst f4_; subst f5_))
                  refine norm_ (a' := ?_) ?_ ?_
                  rotate_left
                  · simp only [putAll, Act.put, List.setIfInBounds_toArray, List.set_cons_zero, List.set_cons_succ]
                    rfl
                  refine one_ (i := 7) (N := some 28) #[true, true, true, true, true, true, true, true, false, false, false] rfl rfl (one_of HT_.out (by kernel_rfl)) (by decide) (fun K hK => ?_)
                  refine Kd.R_append_rows_step (Kd.int .i64) (w0 := w) w.heap.size (by rfl) (.tmp 25) (.tmp 27) 22 3 (.int .i64 0) 8 rfl Try.underlying22 info3 rfl (by decide) (by omega) v401 t400 y403 _ _ _ (fun k_ => some k_ ≠ (u4 : Value).ownBlock ∧ some k_ ≠ (.slice Ao42 y403.length co42 : Value).ownBlock) (fun _ => False) rfl rfl ?aO ?aR (fun _ _ h => h) (fun _ h => h.elim) ?aF ?aB ?aS ?aL ?_
                  (case aR => exact qC (Kd.R_reads' HO405.out).2.2)
                  (case aB => exact (qD HB))
                  (case aF => exact (fun k_ hk => ⟨Kd.fresh' (Kd.R_lt (qR HO_4)) k_ hk, Kd.fresh' (Kd.R_lt (qR HO405)) k_ hk⟩))
                  (case aO => exact (mR HO402 (fun _ hk => ⟨hk.2, hk.1⟩)))
                  (case aS => exact (below_size (qD HB)))
                  (case aL => have := LMc19.out; omega)
                  intro v407 w41 ho hb hg hat
                  rw [← Ny406.out] at ho
                  replace HO_4 := Aside0.mk (Kd.R_after (ok := (fun k_ => some k_ ≠ (.slice Ao42 y403.length co42 : Value).ownBlock)) (mR HO_4 (fun _ hk => ⟨hk.2, hk.1⟩)) hg hat)
                  replace BK394 := Aside0.mk (blk_grown (g := gb394) (o := .cells #[.int .i64 a0_0, .slice A0_1 l0_1.length c0_1] 26 (0, 0)) (qB BK394) hg (Kd.R_ne HO402.out BK394.out (by decide)))
                  replace HO405 := Aside0.mk (Kd.R_after (ok := (fun k_ => some k_ ≠ (u4 : Value).ownBlock)) (mR HO405 (fun _ hk => ⟨hk.2, hk.1⟩)) hg hat)
                  replace HB := Aside0.mk (hb)
                  have HO408 := Aside0.mk (ho)
                  clear HO402
                  clear ho hb hg hat
                  obtain ⟨Ao43, co43, eo43⟩ := Kd.R_slice HO408.out
                  (first | subst eo43 | (injection eo43 with f1_ f2_ f3_; have f4_ := f1_.symm; have f5_ := f3_.symm; clear f1_ f2_ f3_; subst f4_; subst f5_))
                  refine hK.out _ _ ⟨cl BK394 0, cl BK394 1⟩ (fun hHeld => ?_)
                  clear hK K
                  refine nm (some 28) ?_
                  refine pu 8 (some 29) #[true, true, true, true, true, true, true, true, true, false, false] HT_ ?_
                  refine one_ (i := 9) (N := some 30) #[true, true, true, true, true, true, true, true, true, true, false] rfl rfl (one_of HT_.out (by kernel_rfl)) (by decide) (fun K hK => ?_)
                  refine gt Try.func139 #[.agg #[.int .i64 a0_0, .slice Ao43 y406.length co43]] ?_
                  with_reducible refine (impl_needless.calls k2 a0_0 _ _ y406 t409 _ ?side1 ?side2 A20.out).mono ?_
                  (case side1 => exact qC (Kd.R_reads' HO408.out).2.2)
                  (case side2 => exact (Kd.R_reads' HO408.out).2.1)
                  rintro e w44 ⟨rfl, hb⟩
                  refine ⟨_, rfl, ?_⟩
                  replace HO_4 := uR HO_4 hb
                  replace HO405 := uR HO405 hb
                  replace HO408 := uR HO408 hb
                  replace BK394 := uB BK394 hb
                  replace HB := uD HB hb
                  (try clear hb)
                  (try clear hb2)
                  (try clear hk)
                  (try clear hi)
                  refine hK.out _ _ ⟨cl BK394 0, cl BK394 1⟩ (fun hHeld => ?_)
                  clear hK K
                  refine nm (some 30) ?_
                  refine pu 10 (some 31) #[true, true, true, true, true, true, true, true, true, true, true] HT_ ?_
                  refine done_ (done_of HT_.out (by kernel_rfl)) ?_
                  try go_wp2
                  go_roundg k2
                  case measure => have := HJ1.out; have := HK2.out; omega
                  case rel => exact ⟨(x4_2), (wrap64 (x18_2 + 1)), (by first | rfl | (simp; done) | (simp [*]; done) | (simp [bne]; done)), H', ⟨by have := HJ1.out; have := HK2.out; omega⟩, ⟨mR HO_4 (fun _ hk => trivial)⟩, ⟨qB BK394⟩, ⟨qD HB⟩⟩
              · rw [if_neg c19] at H
                exact absurd H (by simp)
            · rw [if_neg c17] at H
              have c17b0 : decide (x18_2 < (wrap64 (a0_0 - 1))) = false := decide_eq_false c17
              clear c17
              simp only [Option.some.injEq, Prod.mk.injEq] at H
              obtain ⟨rfl, rfl⟩ := H
              go_wp2
              go_ret2
              exact ⟨_, by first | rfl | (simp [errW_none, errW_some] <;> rfl) | (simp [*, errW_none, errW_some] <;> rfl), qR HO_4, qD HB⟩

end Go.Proofs.Ytlmlamkbedfmhaa.P
end
section
namespace Go.Proofs.Ytlmlamkbedfmhaa.P
open Go.RowKit Go.Proofs.YtlmlamkbedfmhaaW.PrintWords Go.Proofs.YtlmlamkbedfmhaaW.PrintLast Go.Proofs.YtlmlamkbedfmhaaW.PrintMore
attribute [local go_sem] max2_int min2_int max_two min_two max_three min_three max_four min_four   -- for this text's walks alone
set_option linter.unusedVariables false
set_option linter.unusedSimpArgs false

/-! ### impl_AddRung: function 69 -/
def impl_AddRung.j0 : Nat → Int → Int → Bool → Int → List Int → Option (Int × List Int × Bool)
  | 0, _, _, _, _, _ => none
  | k + 1, x1, x2, x18, x482000, x482001 => if x18 = true then (some (0, ([] : List Int), false)) else ((slices_Clone_int_int.f x482001).bind fun t485 => ((slices_Insert_int_int.f t485 x1 (([x2] : List Int))).bind fun t491 => ((impl_checked.f x482000 t491).bind fun bt494 => (some (bt494.1, bt494.2.1, bt494.2.2)))))
def impl_AddRung.f (k : Nat) (a0_0 : Int) (l0_1 : List Int) (a1 : Int) (a2 : Int) : Option (Int × List Int × Bool) := (impl_isLadder.f a0_0 l0_1).bind fun t483 => (if t483 = true then ((impl_between.f a1 0 (l0_1.length : Int)).bind fun t484 => (impl_AddRung.j0 k a1 a2 (!t484) a0_0 l0_1)) else (impl_AddRung.j0 k a1 a2 true a0_0 l0_1))
def impl_AddRung.T3 : Bool × List (List Nat × List Nat) := (true, [([], []), ([0], [0]), ([], []), ([2], [2]), ([3], [3]), ([], []), ([], []), ([6], [6]), ([4, 5, 7, 4], [4, 5, 7]), ([1, 8], [1, 8]), ([9, 8], [9]), ([10], [10]), ([10], [10]), ([11, 10, 0, 1, 2, 3, 4, 5, 6, 7, 8, 9, 10, 11, 12], [11]), ([12, 13, 0, 1, 2, 3, 4, 5, 6, 7, 8, 9, 10, 11, 12, 13], [12])])
def impl_AddRung.B3 : List Nat := [0, 1, 0, 4, 12, 0, 0, 64, 252, 511, 1023, 2047, 2047, 8191, 16383]
theorem impl_AddRung.tab3 : rtab .any (opsOf Try.f69 3) = impl_AddRung.T3 := by kernel_rfl
theorem impl_AddRung.bits3 : waitsOk impl_AddRung.T3.2 impl_AddRung.B3 = true := by kernel_rfl
set_option maxHeartbeats 8000000 in
set_option maxRecDepth 100000 in
theorem impl_AddRung.calls (k : Nat) (a0_0 : Int) (A0_1 : Option Addr) (c0_1 : Nat) (l0_1 : List Int) (a1 : Int) (a2 : Int) (r1 : Int) (r2 : List Int) (r3 : Bool) (w : World) (hr0_1 : Kd.C (Kd.int .i64) w A0_1 l0_1.length l0_1) (hc0_1 : l0_1.length ≤ c0_1) (h : impl_AddRung.f k a0_0 l0_1 a1 a2 = some (r1, r2, r3)) :
    Calls Try.prog 69 #[.agg #[.int .i64 a0_0, .slice A0_1 l0_1.length c0_1], .int .i64 a1, .int .i64 a2] w fun e w' => ∃ v1_ : Value, e = .returned (.tuple #[.agg #[.int .i64 r1, v1_], .bool r3]) ∧ Kd.R (Kd.int .i64) 3 w' w.heap.size (fun _ => True) v1_ r2 ∧ Below w.heap.size w w' := by
  have hu26 := Try.underlying26
  have HR0_1 := Aside0.mk hr0_1
  have HC0_1 := Aside0.mk hc0_1
  clear hr0_1 hc0_1
  have HB := Aside0.mk (Below.refl w.heap.size w)
  have H : ((impl_isLadder.f a0_0 l0_1).bind fun t483 => (if t483 = true then ((impl_between.f a1 0 (l0_1.length : Int)).bind fun t484 => (impl_AddRung.j0 k a1 a2 (!t484) a0_0 l0_1)) else (impl_AddRung.j0 k a1 a2 true a0_0 l0_1))) = some (r1, r2, r3) := h
  clear h
  have HC4 := Aside0.mk H
  clear H
  go_enter Try.func69, Try.ntmps69
  go_upto_region 1 with (first | ((with_reducible refine gate_dst (N := 3) rfl ?_); (try (refine gate_guard (by rfl) ?_; dsimp only)); refine box_event ?hg (N := 3) ?hd (cs := #[.int .i64 a0_0, .slice A0_1 l0_1.length c0_1]) (t := 26) ?hr ?_; (case hd => rfl); (case hg => rfl); (case hr => first | (go_simp; done) | (go_simp; rfl)); intro gb481 hg w5 hbox hb; have BK481 := Aside0.mk (hbox); have GW481 := gE hg HB; have GE481 := gE hg HB; replace HB := uD HB hb; clear hb hbox hg) | ((with_reducible refine gate_dst (N := 6) rfl ?_); (try (refine gate_guard (by rfl) ?_; dsimp only)); refine box_event ?hg (N := 6) ?hd (cs := #[.int .i64 0, .slice none 0 0]) (t := 26) ?hr ?_; (case hd => rfl); (case hg => rfl); (case hr => first | (go_simp; done) | (go_simp; rfl)); intro gb482 hg w6 hbox hb; have BK482 := Aside0.mk (hbox); have GW482 := gE hg HB; have GE482 := gE hg HB; replace HB := uD HB hb; have NB481_482 := nB hg BK481; have NB482_481 := nC hg BK481; replace BK481 := uB BK481 hb; clear hb hbox hg))
  (try simp only [Act.put, List.setIfInBounds_toArray, List.set_cons_zero, List.set_cons_succ])
  go_cut [18] (fun v18 wc => ∃ (kq : Nat) (x18_3 : Bool), v18 = .bool x18_3 ∧ Aside0 (impl_AddRung.j0 kq a1 a2 x18_3 a0_0 l0_1 = some (r1, r2, r3)) ∧ Aside0 (kq ≤ k) ∧ Aside0 (wc.heap[gb481]? = some (.cells #[.int .i64 a0_0, (.slice A0_1 l0_1.length c0_1)] 26 (0, 0))) ∧ Aside0 (wc.heap[gb482]? = some (.cells #[.int .i64 0, (.slice none 0 0)] 26 (0, 0))) ∧ Aside0 (Below w.heap.size w wc))
  case first =>
    have H := HC4.out
    clear HC4
    replace H := Option.bind_eq_some_iff.mp H
    obtain ⟨t483, A70, H⟩ := H
    replace H : (if t483 = true then ((impl_between.f a1 0 (l0_1.length : Int)).bind fun t484 => (impl_AddRung.j0 k a1 a2 (!t484) a0_0 l0_1)) else (impl_AddRung.j0 k a1 a2 true a0_0 l0_1)) = some (r1, r2, r3) := H
    have A7 := Aside0.mk A70
    clear A70
    by_cases c8 : t483 = true
    · subst c8
      have H1 : ((impl_between.f a1 0 (l0_1.length : Int)).bind fun t484 => (impl_AddRung.j0 k a1 a2 (!t484) a0_0 l0_1)) = some (r1, r2, r3) := by rw [if_pos rfl] at H; exact H
      clear H
      have H := H1
      clear H1
      replace H := Option.bind_eq_some_iff.mp H
      obtain ⟨t484, A90, H⟩ := H
      replace H : (impl_AddRung.j0 k a1 a2 (!t484) a0_0 l0_1) = some (r1, r2, r3) := H
      have A9 := Aside0.mk A90
      clear A90
      have H' := Aside0.mk H
      clear H
      have hnb10 := NB481_482.out
      have hnc10 := NB482_481.out
      have hcz11_0 := cl BK481 0
      have hcz11_1 := cl BK481 1
      have hfz11_0 := blk_frozen BK481.out 0
      have hfz11_1 := blk_frozen BK481.out 1
      go_wp2_with (first | ((with_reducible refine gate_callee (f := 93) rfl ?_); refine gs (some 9) Try.func93 #[.agg #[.int .i64 a0_0, .slice A0_1 l0_1.length c0_1]] ?_; (with_reducible refine (impl_isLadder.calls a0_0 _ _ l0_1 true _ ?side1 ?side2 A7.out).mono ?_); (case side1 => exact qC (Kd.C_below HR0_1.out HB.out)); (case side2 => exact HC0_1.out); rintro e w12 ⟨rfl, hb⟩; refine ⟨_, rfl, ?_⟩; replace BK481 := uB BK481 hb; replace BK482 := uB BK482 hb; replace HB := uD HB hb; (try clear hb); (try clear hb2); (try clear hk); (try clear hi); have hcz13_0 := cl BK481 0; have hcz13_1 := cl BK481 1; have hfz13_0 := blk_frozen BK481.out 0; have hfz13_1 := blk_frozen BK481.out 1) | (go_at_call 98; (with_reducible refine (impl_between.calls a1 0 (l0_1.length : Int) t484 _ A9.out).mono ?_); rintro e w' ⟨rfl, ⟨nd, rfl⟩⟩))
      go_meet
      case rel => exact ⟨_, (!t484), (by first | rfl | (simp; done) | (simp [*]; done) | (simp [bne]; done)), H', ⟨by first | omega | exact Nat.le_refl _⟩, ⟨qB BK481⟩, ⟨qB BK482⟩, ⟨qD HB⟩⟩
    · replace c8 := Bool.eq_false_iff.mpr c8
      subst c8
      have H1 : (impl_AddRung.j0 k a1 a2 true a0_0 l0_1) = some (r1, r2, r3) := by rw [if_neg (show ¬ (false = true) by decide)] at H; exact H
      clear H
      have H := H1
      clear H1
      have H' := Aside0.mk H
      clear H
      have hnb14 := NB481_482.out
      have hnc14 := NB482_481.out
      have hcz15_0 := cl BK481 0
      have hcz15_1 := cl BK481 1
      have hfz15_0 := blk_frozen BK481.out 0
      have hfz15_1 := blk_frozen BK481.out 1
      go_wp2_with (first | ((with_reducible refine gate_callee (f := 93) rfl ?_); refine gs (some 9) Try.func93 #[.agg #[.int .i64 a0_0, .slice A0_1 l0_1.length c0_1]] ?_; (with_reducible refine (impl_isLadder.calls a0_0 _ _ l0_1 false _ ?side1 ?side2 A7.out).mono ?_); (case side1 => exact qC (Kd.C_below HR0_1.out HB.out)); (case side2 => exact HC0_1.out); rintro e w16 ⟨rfl, hb⟩; refine ⟨_, rfl, ?_⟩; replace BK481 := uB BK481 hb; replace BK482 := uB BK482 hb; replace HB := uD HB hb; (try clear hb); (try clear hb2); (try clear hk); (try clear hi)))
      go_meet
      case rel => exact ⟨_, (true), (by first | rfl | (simp; done) | (simp [*]; done) | (simp [bne]; done)), H', ⟨by first | omega | exact Nat.le_refl _⟩, ⟨qB BK481⟩, ⟨qB BK482⟩, ⟨qD HB⟩⟩
  case rest =>
    clear HC4
    try clear c1
    try clear p2
    try clear c6
    try clear c8
    try clear c9
    try clear c10
    try clear c14
    try clear hcz11_0
    try clear hcz11_1
    try clear hcz13_0
    try clear hcz13_1
    try clear hcz15_0
    try clear hcz15_1
    try clear hfz11_0
    try clear hfz11_1
    try clear hfz13_0
    try clear hfz13_1
    try clear hfz15_0
    try clear hfz15_1
    obtain ⟨kq, x18_3, rfl, HA, HJ3, BK481, BK482, HB⟩ := hcut
    cases kq with
    | zero => exact absurd HA.out (by simp [impl_AddRung.j0])
    | succ kj3 =>
      have H := HA.out
      clear HA
      simp only [impl_AddRung.j0] at H
      by_cases c17 : x18_3 = true
      · subst c17
        have H1 : (some (0, ([] : List Int), false)) = some (r1, r2, r3) := by rw [if_pos rfl] at H; exact H
        clear H
        have H := H1
        clear H1
        simp only [Option.some.injEq, Prod.mk.injEq] at H
        obtain ⟨rfl, rfl, rfl⟩ := H
        have hnb18 := NB482_481.out
        have hnc18 := NB481_482.out
        have hcz19_0 := cl BK482 0
        have hcz19_1 := cl BK482 1
        have hfz19_0 := blk_frozen BK482.out 0
        have hfz19_1 := blk_frozen BK482.out 1
        go_wp2
        refine bodyPost_ret (results_ct rfl _ _ gb482 26 #[.int .i64 0, .slice none 0 0] (0, 0) _ rfl (by (with_reducible repeat (first | refine blk_drewN ?_ _ | refine blk_drew ?_ | refine blk_alloc ?_ _)); refine blk_put (cs := #[.int .i64 0, .slice none 0 0]) ?_ 1 _ rfl; (with_reducible repeat (first | refine blk_drewN ?_ _ | refine blk_drew ?_ | refine blk_alloc ?_ _)); refine blk_put (cs := #[.int .i64 0, .slice none 0 0]) ?_ 0 _ rfl; (with_reducible repeat (first | refine blk_drewN ?_ _ | refine blk_drew ?_ | refine blk_alloc ?_ _)); exact BK482.out) Try.underlying26 rfl (by kernel_rfl)) rfl ?_
        exact ⟨_, by first | rfl | (simp [errW_none, errW_some] <;> rfl) | (simp [*, errW_none, errW_some] <;> rfl), by first | exact Kd.R_nil _ _ _ _ _ | exact Kd.N_nil _ _ _ _ _ | exact Kd.V_nil _ _ _ _ _ | exact Kd.Q_nil _ _ _ _ _ | exact Kd.S_nil _ _ _ _ _, qD HB⟩
      · replace c17 := Bool.eq_false_iff.mpr c17
        subst c17
        have H1 : ((slices_Clone_int_int.f l0_1).bind fun t485 => ((slices_Insert_int_int.f t485 a1 (([a2] : List Int))).bind fun t491 => ((impl_checked.f a0_0 t491).bind fun bt494 => (some (bt494.1, bt494.2.1, bt494.2.2))))) = some (r1, r2, r3) := by rw [if_neg (show ¬ (false = true) by decide)] at H; exact H
        clear H
        have H := H1
        clear H1
        replace H := Option.bind_eq_some_iff.mp H
        obtain ⟨t485, A200, H⟩ := H
        replace H : ((slices_Insert_int_int.f t485 a1 (([a2] : List Int))).bind fun t491 => ((impl_checked.f a0_0 t491).bind fun bt494 => (some (bt494.1, bt494.2.1, bt494.2.2)))) = some (r1, r2, r3) := H
        have A20 := Aside0.mk A200
        clear A200
        obtain ⟨y488, hy488⟩ : ∃ y_ : List Int, y_ = (([a2] : List Int)) := ⟨_, rfl⟩
        replace H : ((slices_Insert_int_int.f t485 a1 y488).bind fun t491 => ((impl_checked.f a0_0 t491).bind fun bt494 => (some (bt494.1, bt494.2.1, bt494.2.2)))) = some (r1, r2, r3) := by first | (rw [hy488]; with_reducible exact H) | (have H2_ := (Option.bind_some _ _).symm.trans H; rw [hy488]; with_reducible exact H2_) | (have H2_ := (Option.bind_some _ _).symm.trans H; with_reducible exact H2_) | with_reducible exact H | (rw [hy488]; exact H) | exact H
        have Ny488 := Aside0.mk hy488
        clear hy488
        replace H := Option.bind_eq_some_iff.mp H
        obtain ⟨t491, A210, H⟩ := H
        replace H : ((impl_checked.f a0_0 t491).bind fun bt494 => (some (bt494.1, bt494.2.1, bt494.2.2))) = some (r1, r2, r3) := H
        have A21 := Aside0.mk A210
        clear A210
        replace H := Option.bind_eq_some_iff.mp H
        obtain ⟨⟨t494, t495, t498⟩, A220, H⟩ := H
        replace H : (some (t494, t495, t498)) = some (r1, r2, r3) := H
        have A22 := Aside0.mk A220
        clear A220
        simp only [Option.some.injEq, Prod.mk.injEq] at H
        obtain ⟨rfl, rfl, rfl⟩ := H
        try go_wp2
        replace BK481 := Aside0.mk (blk_drew BK481.out)
        replace BK482 := Aside0.mk (blk_drew BK482.out)
        replace HB := Aside0.mk (below_drew1 HB.out)
        refine start_ (n := 15) (S := fun w' => w'.cell? ⟨gb481, 0, none⟩ = some (.int .i64 a0_0) ∧ w'.cell? ⟨gb481, 1, none⟩ = some (.slice A0_1 l0_1.length c0_1)) (ds := []) #[false, false, false, false, false, false, false, false, false, false, false, false, false, false, false] (by kernel_rfl) rfl rfl ⟨cl BK481 0, cl BK481 1⟩ (fun hHeld => ?_); refine with_tabW impl_AddRung.tab3 impl_AddRung.bits3 (fun HT_ HW_ => ?_)
        generalize wc.drew = w23 at BK481 BK482 HB hHeld ⊢
        refine pu 0 (some 20) #[true, false, false, false, false, false, false, false, false, false, false, false, false, false, false] HT_ ?_
        refine pu 2 (some 22) #[true, false, true, false, false, false, false, false, false, false, false, false, false, false, false] HT_ ?_
        refine pu 5 (some 25) #[true, false, true, false, false, true, false, false, false, false, false, false, false, false, false] HT_ ?_
        refine pu 6 (some 26) #[true, false, true, false, false, true, true, false, false, false, false, false, false, false, false] HT_ ?_
        refine tk 1 (some 21) #[true, true, true, false, false, true, true, false, false, false, false, false, false, false, false] HT_ HW_ hHeld ?_
        refine tk 3 (some 23) #[true, true, true, true, false, true, true, false, false, false, false, false, false, false, false] HT_ HW_ hHeld ?_
        refine join_ (σ := Value × Value) 7 #[true, true, true, true, true, true, true, true, false, false, false, false, false, false, false] (fun s_ => [(24, s_.1), (27, s_.2)]) (fun s_ w' => (w'.cell? ⟨gb481, 0, none⟩ = some (.int .i64 a0_0) ∧ w'.cell? ⟨gb481, 1, none⟩ = some (.slice A0_1 l0_1.length c0_1)) ∧ (Kd.R (Kd.int .i64) 3 w' w.heap.size (fun k_ => some k_ ≠ (s_.2 : Value).ownBlock) s_.1 t485) ∧ (Kd.R (Kd.int .i64) 3 w' w.heap.size (fun k_ => some k_ ≠ (s_.1 : Value).ownBlock) s_.2 y488) ∧ (w'.heap[gb481]? = some (.cells #[.int .i64 a0_0, .slice A0_1 l0_1.length c0_1] 26 (0, 0))) ∧ (w'.heap[gb482]? = some (.cells #[.int .i64 0, .slice none 0 0] 26 (0, 0))) ∧ (Below w.heap.size w w')) ?_ ?_
        rotate_left
        · intro hCont
          refine two_ (i := 4) (j := 7) (Ni := some 24) (Nj := some 27) #[true, true, true, true, true, true, true, false, false, false, false, false, false, false, false] #[true, true, true, true, false, true, true, true, false, false, false, false, false, false, false] rfl rfl rfl rfl (two_of HT_.out (by kernel_rfl)) (by decide) (by decide) (fun K hK => ?_) (fun K hK => ?_)
          · skip
            refine gt Try.func94 #[.slice A0_1 l0_1.length c0_1] ?_
            with_reducible refine (slices_Clone_int_int.calls _ _ l0_1 t485 _ ?side1 ?side2 A20.out).mono ?_
            (case side1 => exact qC (Kd.C_below HR0_1.out HB.out))
            (case side2 => exact HC0_1.out)
            rintro e w24 ⟨v486, rfl, ho0, hb⟩
            refine ⟨_, rfl, ?_⟩
            have HO487 := Aside0.mk (Kd.R_lower ho0 (below_size (qD HB)))
            replace BK481 := uB BK481 hb
            replace BK482 := uB BK482 hb
            replace HB := uD HB hb
            (try clear hb)
            (try clear hb2)
            (try clear hk)
            (try clear hi)
            (try clear ho0)
            refine hK.out _ _ ⟨cl BK481 0, cl BK481 1⟩ (fun hHeld => ?_)
            clear hK K
            refine nm (some 24) ?_
            refine one_ (i := 7) (N := some 27) #[true, true, true, true, true, true, true, true, false, false, false, false, false, false, false] rfl rfl (one_of HT_.out (by kernel_rfl)) (by decide) (fun K hK => ?_)
            refine Kd.R_lit_step (Kd.int .i64) _ 3 ?hg (N := 27) ?hd (xs := ([a2] : List Int)) (inner := [.int .i64 a2]) (ok := fun _ => True) (okp := fun _ => True) ?hr ?hp (fun _ hk => hk) trivial (Below.refl _ _) (Nat.le_refl _) (by simp) ?_; (case hd => rfl); (case hg => rfl); (case hr => first | (go_simp; done) | (go_simp; rfl)); (case hp => exact (Reps.one (show Kd.M (Kd.int .i64) _ _ _ a2 [.int .i64 a2] from rfl) (Reps.none _ _)))
            intro v489 w25 ho26 hb hg_ hnew_
            clear hg_ hnew_
            (first | rw [← Ny488.out] at ho26 | (simp only [Int.reduceToNat] at ho26; rw [← Ny488.out] at ho26))
            have HO490 := Aside0.mk (Kd.R_lower (Kd.R_new' ho26 (Kd.R_lt (qR HO487))) (below_size (qD HB)))
            replace HO487 := Aside0.mk (Kd.R_elder' (qR HO487) (Kd.R_base ho26) hb)
            replace BK481 := uB BK481 hb
            replace BK482 := uB BK482 hb
            replace HB := uD HB hb
            clear hb ho26
            refine hK.out _ _ ⟨cl BK481 0, cl BK481 1⟩ (fun hHeld => ?_)
            clear hK K
            refine nm (some 27) ?_
            exact norm_ (by simp only [putAll, Act.put, List.setIfInBounds_toArray, List.set_cons_zero, List.set_cons_succ]) (hCont (v486, v489) _ ⟨hHeld, (mR HO487 (fun _ hk => hk.2)), (mR HO490 (fun _ hk => hk.2)), (qB BK481), (qB BK482), (qD HB)⟩)
          · skip
            refine Kd.R_lit_step (Kd.int .i64) _ 3 ?hg (N := 27) ?hd (xs := ([a2] : List Int)) (inner := [.int .i64 a2]) (ok := fun _ => True) (okp := fun _ => True) ?hr ?hp (fun _ hk => hk) trivial (Below.refl _ _) (Nat.le_refl _) (by simp) ?_; (case hd => rfl); (case hg => rfl); (case hr => first | (go_simp; done) | (go_simp; rfl)); (case hp => exact (Reps.one (show Kd.M (Kd.int .i64) _ _ _ a2 [.int .i64 a2] from rfl) (Reps.none _ _)))
            intro v489 w24 ho25 hb hg_ hnew_
            clear hg_ hnew_
            (first | rw [← Ny488.out] at ho25 | (simp only [Int.reduceToNat] at ho25; rw [← Ny488.out] at ho25))
            have HO490 := Aside0.mk (Kd.R_lower ho25 (below_size (qD HB)))
            replace BK481 := uB BK481 hb
            replace BK482 := uB BK482 hb
            replace HB := uD HB hb
            clear hb ho25
            refine hK.out _ _ ⟨cl BK481 0, cl BK481 1⟩ (fun hHeld => ?_)
            clear hK K
            refine nm (some 27) ?_
            refine one_ (i := 4) (N := some 24) #[true, true, true, true, true, true, true, true, false, false, false, false, false, false, false] rfl rfl (one_of HT_.out (by kernel_rfl)) (by decide) (fun K hK => ?_)
            refine gt Try.func94 #[.slice A0_1 l0_1.length c0_1] ?_
            with_reducible refine (slices_Clone_int_int.calls _ _ l0_1 t485 _ ?side1 ?side2 A20.out).mono ?_
            (case side1 => exact qC (Kd.C_below HR0_1.out HB.out))
            (case side2 => exact HC0_1.out)
            rintro e w26 ⟨v486, rfl, ho0, hb⟩
            refine ⟨_, rfl, ?_⟩
            have HO487 := Aside0.mk (Kd.R_lower (Kd.R_new' ho0 (Kd.R_lt (qR HO490))) (below_size (qD HB)))
            replace HO490 := eR HO490 ho0 hb
            replace BK481 := uB BK481 hb
            replace BK482 := uB BK482 hb
            replace HB := uD HB hb
            (try clear hb)
            (try clear hb2)
            (try clear hk)
            (try clear hi)
            (try clear ho0)
            refine hK.out _ _ ⟨cl BK481 0, cl BK481 1⟩ (fun hHeld => ?_)
            clear hK K
            refine nm (some 24) ?_
            exact norm_ (by simp only [putAll, Act.put, List.setIfInBounds_toArray, List.set_cons_zero, List.set_cons_succ]) (hCont (v486, v489) _ ⟨hHeld, (mR HO487 (fun _ hk => hk.2)), (mR HO490 (fun _ hk => hk.2)), (qB BK481), (qB BK482), (qD HB)⟩)
        rintro ⟨v486, v489⟩ w27 ⟨hS_, h0_, h1_, h2_, h3_, h4_⟩
        have n0_ : Aside0 (Kd.R (Kd.int .i64) 3 w27 w.heap.size (fun k_ => some k_ ≠ (v489 : Value).ownBlock) v486 t485) := ⟨h0_⟩
        have n1_ : Aside0 (Kd.R (Kd.int .i64) 3 w27 w.heap.size (fun k_ => some k_ ≠ (v486 : Value).ownBlock) v489 y488) := ⟨h1_⟩
        have n2_ : Aside0 (w27.heap[gb481]? = some (.cells #[.int .i64 a0_0, .slice A0_1 l0_1.length c0_1] 26 (0, 0))) := ⟨h2_⟩
        have n3_ : Aside0 (w27.heap[gb482]? = some (.cells #[.int .i64 0, .slice none 0 0] 26 (0, 0))) := ⟨h3_⟩
        have n4_ : Aside0 (Below w.heap.size w w27) := ⟨h4_⟩
        clear BK481
        clear BK482
        clear HB
        clear h0_ h1_ h2_ h3_ h4_
        have HO487 := n0_
        have HO490 := n1_
        have BK481 := n2_
        have BK482 := n3_
        have HB := n4_
        clear n0_ n1_ n2_ n3_ n4_
        have hHeld : w27.cell? ⟨gb481, 0, none⟩ = some (.int .i64 a0_0) ∧ w27.cell? ⟨gb481, 1, none⟩ = some (.slice A0_1 l0_1.length c0_1) := hS_
        obtain ⟨Ao28, co28, eo28⟩ := Kd.R_slice HO487.out
        (first | subst eo28 | (injection eo28 with f1_ f2_ f3_; have f4_ := f1_.symm; have f5_ := f3_.symm; clear f1_ f2_ f3_; subst f4_; subst f5_))
        obtain ⟨Ao29, co29, eo29⟩ := Kd.R_slice HO490.out
        (first | subst eo29 | (injection eo29 with f1_ f2_ f3_; have f4_ := f1_.symm; have f5_ := f3_.symm; clear f1_ f2_ f3_; subst f4_; subst f5_))
        refine norm_ (a' := ?_) ?_ ?_
        rotate_left
        · simp only [putAll, Act.put, List.setIfInBounds_toArray, List.set_cons_zero, List.set_cons_succ]
          rfl
        refine one_ (i := 8) (N := some 28) #[true, true, true, true, true, true, true, true, true, false, false, false, false, false, false] rfl rfl (one_of HT_.out (by kernel_rfl)) (by decide) (fun K hK => ?_)
        refine gt Try.func143 #[.slice Ao28 t485.length co28, .int .i64 a1, .slice Ao29 y488.length co29] ?_
        with_reducible refine (slices_Insert_int_int.calls (fun k_ => some k_ = (.slice Ao28 t485.length co28 : Value).ownBlock) (.slice Ao28 t485.length co28) t485 a1 _ _ y488 t491 w _ ?side1 ?side2 ?side3 ?side4 A21.out).mono ?_
        (case side1 => repeat (first | (with_reducible first | exact HB.out | apply below_alloc | apply pw_below_drewN | apply below_drew1 | refine below_set ?_ GE481.out | refine below_set ?_ GE482.out) | exact HB.out))
        (case side2 => exact Kd.R_tight rfl HO487.out)
        (case side3 => exact Kd.C_kept_own (HO490.out) (fun k_ hk_ hs_ => (hk_) hs_))
        (case side4 => exact (Kd.R_reads' HO490.out).2.1)
        rintro e w30 ⟨v492, rfl, ho0, hb, hkp⟩
        refine ⟨_, rfl, ?_⟩
        replace BK481 := Aside0.mk (blk_kept (qB BK481) hkp (fun hs_ => (fun e_ => (Kd.R_ne HO487.out BK481.out (by decide)) e_) hs_))
        replace BK482 := Aside0.mk (blk_kept (qB BK482) hkp (fun hs_ => (fun e_ => (Kd.R_ne HO487.out BK482.out (by decide)) e_) hs_))
        have HO493 := Aside0.mk (Kd.R_mono (ok' := fun k_ => some k_ ≠ (.slice Ao29 y488.length co29 : Value).ownBlock) ho0 (fun k_ hk_ => Or.elim hk_ (fun hs_ => fun e_ => (((HO490.out).1 k_ e_.symm)) hs_) (fun hn_ => (Kd.fresh' (Kd.R_lt (qR HO490)) k_ hn_))))
        replace HO490 := Aside0.mk (Kd.R_mono (ok' := fun k_ => some k_ ≠ (v492 : Value).ownBlock) (Kd.R_keptB (HO490.out) hkp (fun k_ hk_ hs_ => (hk_) hs_)) (fun k_ hk_ => fun e_ => Or.elim (ho0.1 k_ e_.symm) (fun hs_ => hk_.2.1 hs_) (fun hn_ => Nat.not_le.2 hk_.2.2 hn_)))
        replace HB := Aside0.mk (hb)
        clear HO487
        (try clear hb)
        (try clear hkp)
        (try clear ho0)
        obtain ⟨Ao31, co31, eo31⟩ := Kd.R_slice HO493.out
        (first | subst eo31 | (injection eo31 with f1_ f2_ f3_; have f4_ := f1_.symm; have f5_ := f3_.symm; clear f1_ f2_ f3_; subst f4_; subst f5_))
        refine hK.out _ _ ⟨cl BK481 0, cl BK481 1⟩ (fun hHeld => ?_)
        clear hK K
        refine nm (some 28) ?_
        refine pu 9 (some 29) #[true, true, true, true, true, true, true, true, true, true, false, false, false, false, false] HT_ ?_
        refine one_ (i := 10) (N := some 30) #[true, true, true, true, true, true, true, true, true, true, true, false, false, false, false] rfl rfl (one_of HT_.out (by kernel_rfl)) (by decide) (fun K hK => ?_)
        refine gt Try.func95 #[.agg #[.int .i64 a0_0, .slice Ao31 t491.length co31]] ?_
        with_reducible refine (impl_checked.calls a0_0 (fun k_ => some k_ = (.slice Ao31 t491.length co31 : Value).ownBlock) (.slice Ao31 t491.length co31) t491 t494 t495 t498 w _ ?side1 ?side2 A22.out).mono ?_
        (case side1 => repeat (first | (with_reducible first | exact HB.out | apply below_alloc | apply pw_below_drewN | apply below_drew1 | refine below_set ?_ GE481.out | refine below_set ?_ GE482.out) | exact HB.out))
        (case side2 => exact Kd.R_tight rfl HO493.out)
        rintro e w32 ⟨v496, rfl, ho0, hb, hkp⟩
        refine ⟨_, rfl, ?_⟩
        replace BK481 := Aside0.mk (blk_kept (qB BK481) hkp (fun hs_ => (fun e_ => (Kd.R_ne HO493.out BK481.out (by decide)) e_) hs_))
        replace BK482 := Aside0.mk (blk_kept (qB BK482) hkp (fun hs_ => (fun e_ => (Kd.R_ne HO493.out BK482.out (by decide)) e_) hs_))
        have HO497 := Aside0.mk (Kd.R_mono (ok' := fun k_ => some k_ ≠ (.slice Ao29 y488.length co29 : Value).ownBlock) ho0 (fun k_ hk_ => Or.elim hk_ (fun hs_ => fun e_ => (((HO490.out).1 k_ e_.symm)) hs_) (fun hn_ => (Kd.fresh' (Kd.R_lt (qR HO490)) k_ hn_))))
        replace HO490 := Aside0.mk (Kd.R_mono (ok' := fun k_ => some k_ ≠ (v496 : Value).ownBlock) (Kd.R_keptB (HO490.out) hkp (fun k_ hk_ hs_ => (hk_) hs_)) (fun k_ hk_ => fun e_ => Or.elim (ho0.1 k_ e_.symm) (fun hs_ => hk_.2.1 hs_) (fun hn_ => Nat.not_le.2 hk_.2.2 hn_)))
        replace HB := Aside0.mk (hb)
        clear HO493
        (try clear hb)
        (try clear hkp)
        (try clear ho0)
        obtain ⟨Ao34, co34, eo34⟩ := Kd.R_slice HO497.out
        (first | subst eo34 | (injection eo34 with f1_ f2_ f3_; have f4_ := f1_.symm; have f5_ := f3_.symm; clear f1_ f2_ f3_; subst f4_; subst f5_))
        refine hK.out _ _ ⟨cl BK481 0, cl BK481 1⟩ (fun hHeld => ?_)
        clear hK K
        refine nm (some 30) ?_
        refine pu 11 (some 31) #[true, true, true, true, true, true, true, true, true, true, true, true, false, false, false] HT_ ?_
        refine pu 12 (some 32) #[true, true, true, true, true, true, true, true, true, true, true, true, true, false, false] HT_ ?_
        refine one_ (i := 13) (N := none) #[true, true, true, true, true, true, true, true, true, true, true, true, true, true, false] rfl rfl (one_of HT_.out (by kernel_rfl)) (by decide) (fun K hK => ?_)
        have hs33 : w32.cell? ⟨gb482, 0, none⟩ = some (.int .i64 0) := cl BK482 0
        have hfs33 := blk_frozen BK482.out 0
        have hns33_0 := NB481_482.out
        have hms33_0 := NB482_481.out
        have hs35 : w32.cell? ⟨gb482, 1, none⟩ = some (.slice none 0 0) := cl BK482 1
        have hfs35 := blk_frozen BK482.out 1
        have hns35_0 := NB481_482.out
        have hms35_0 := NB482_481.out
        refine skip_ (w1 := ?_) (by rfl) rfl ?_ ?_
        rotate_left
        · go_simp
          rfl
        refine hK.out _ _ ⟨((cell_far (p := ⟨gb482, _, none⟩) NB481_482.out _).trans (((cell_far (p := ⟨gb482, _, none⟩) NB481_482.out _).trans (hHeld.1)))), ((cell_far (p := ⟨gb482, _, none⟩) NB481_482.out _).trans (((cell_far (p := ⟨gb482, _, none⟩) NB481_482.out _).trans (hHeld.2))))⟩ (fun hHeld => ?_)
        clear hK K
        refine pu 14 (some 7) #[true, true, true, true, true, true, true, true, true, true, true, true, true, true, true] HT_ ?_
        refine done_ (done_of HT_.out (by kernel_rfl)) ?_
        try go_wp2
        refine bodyPost_ret (results_ct rfl _ _ gb482 26 #[.int .i64 t494, .slice Ao34 t495.length co34] (0, 0) _ rfl (by (with_reducible repeat (first | refine blk_drewN ?_ _ | refine blk_drew ?_ | refine blk_alloc ?_ _)); refine blk_put (cs := #[.int .i64 t494, .slice none 0 0]) ?_ 1 _ rfl; (with_reducible repeat (first | refine blk_drewN ?_ _ | refine blk_drew ?_ | refine blk_alloc ?_ _)); refine blk_put (cs := #[.int .i64 0, .slice none 0 0]) ?_ 0 _ rfl; (with_reducible repeat (first | refine blk_drewN ?_ _ | refine blk_drew ?_ | refine blk_alloc ?_ _)); exact BK482.out) Try.underlying26 rfl (by kernel_rfl)) rfl ?_
        exact ⟨_, by first | rfl | (simp [errW_none, errW_some] <;> rfl) | (simp [*, errW_none, errW_some] <;> rfl), by (with_reducible repeat (first | apply Kd.R_alloc | apply Kd.R_drewN | apply Kd.R_drew)); exact Kd.R_mono (Kd.R_far (p := ⟨gb482, 1, none⟩) (Kd.R_far (p := ⟨gb482, 0, none⟩) (Kd.R_types HO497.out BK482.out (by decide)) (fun _ hk => hk.2) (.int .i64 t494)) (fun _ hk => hk.2) (.slice Ao34 t495.length co34)) (fun _ hk => trivial), qD HB⟩

end Go.Proofs.Ytlmlamkbedfmhaa.P
end
section
namespace Go.Proofs.Ytlmlamkbedfmhaa.P
open Go.RowKit Go.Proofs.YtlmlamkbedfmhaaW.PrintWords Go.Proofs.YtlmlamkbedfmhaaW.PrintLast Go.Proofs.YtlmlamkbedfmhaaW.PrintMore
attribute [local go_sem] max2_int min2_int max_two min_two max_three min_three max_four min_four   -- for this text's walks alone
set_option linter.unusedVariables false
set_option linter.unusedSimpArgs false

/-! ### laws_FnPlacesAndLasts: function 8 -/
mutual
def laws_FnPlacesAndLasts.j0 : Nat → List Int → Int → Int → Int → Int → Bool → Bool → List Int → Bool → Option (Bool)
  | 0, _, _, _, _, _, _, _, _, _ => none
  | k + 1, x1, x5, x6, x7, x8, x9, x10, x13, x150 => if x150 = true then (none) else (if x10 = true then (if x8 = 0 then (if (x9 != (x6 == x7)) = true then (none) else (if (x13.length : Int) = 0 then (if x8 > 0 then (none) else (laws_FnPlacesAndLasts.j1 k x1 x5 x6 x7 x8 x13 false)) else (none))) else (if x8 > 0 then (laws_FnPlacesAndLasts.j1 k x1 x5 x6 x7 x8 x13 (x9 != (decide ((x13.length : Int) > 0)))) else (none))) else (laws_FnPlacesAndLasts.j5 k x1))
def laws_FnPlacesAndLasts.j5 : Nat → List Int → Option (Bool)
  | 0, _ => none
  | k + 1, x1 => (spec_DrawLastMoves.f k x1).bind fun bt534 => ((impl_LastMoves.f k bt534.1 bt534.2).bind fun bt539 => ((spec_LastMoves.f k bt534.1 bt534.2).bind fun bt543 => ((impl_LastWins.f k bt534.1 bt534.2).bind fun bt547 => ((spec_LastWins.f k bt534.1 bt534.2).bind fun bt549 => (if (bt539.2 != bt543.2) = true then (none) else ((laws_nSame.f k bt539.1 bt543.1).bind fun t551 => (if t551 = true then (if (bt547.2 != bt549.2) = true then (none) else (if (bt547.1 != bt549.1) = true then (none) else (laws_FnPlacesAndLasts.j6 k bt539.1 bt539.2 bt547.1 (bt547.2 != bt539.2) bt534.1 bt534.2))) else (none))))))))
def laws_FnPlacesAndLasts.j6 : Nat → List Int → Bool → Bool → Bool → Int → List Int → Option (Bool)
  | 0, _, _, _, _, _, _ => none
  | k + 1, x29, x30, x33, x274, x539000, x539001 => if x274 = true then (none) else (if x30 = true then ((impl_IsLeast.f k x539000 x539001).bind fun bt552 => (if bt552.2 = true then (if bt552.1 = true then (if (x29.length : Int) = 0 then (laws_FnPlacesAndLasts.j7 k x29 x33 x33 x539000 x539001) else (laws_FnPlacesAndLasts.j7 k x29 x33 false x539000 x539001)) else (none)) else (none))) else (some true))
def laws_FnPlacesAndLasts.j7 : Nat → List Int → Bool → Bool → Int → List Int → Option (Bool)
  | 0, _, _, _, _, _ => none
  | k + 1, x29, x33, x294, x539000, x539001 => if x294 = true then (none) else (laws_FnPlacesAndLasts.l2 k x29 x33 0 x539000 x539001)
def laws_FnPlacesAndLasts.l2 : Nat → List Int → Bool → Int → Int → List Int → Option (Bool)
  | 0, _, _, _, _, _ => none
  | k + 1, x29, x33, x39, x539000, x539001 => if x39 < (wrap64 (x539000 - 1)) then ((impl_AddRung.f k x539000 x539001 (x539001.length : Int) x39).bind fun bt554 => ((impl_IsLeast.f k bt554.1 bt554.2.1).bind fun bt560 => (if bt554.2.2 = true then (if bt560.2 = true then ((laws_nHas.f k x29 x39).bind fun t562 => (laws_FnPlacesAndLasts.j9 k x29 x33 x39 bt560.1 (bt560.1 != t562) x539000 x539001 bt554.1 bt554.2.1)) else (none)) else (none)))) else (some true)
def laws_FnPlacesAndLasts.j9 : Nat → List Int → Bool → Int → Bool → Bool → Int → List Int → Int → List Int → Option (Bool)
  | 0, _, _, _, _, _, _, _, _, _ => none
  | k + 1, x29, x33, x39, x42, x328, x539000, x539001, x560000, x560001 => if x328 = true then (none) else (if x42 = true then ((impl_LastWins.f k x560000 x560001).bind fun bt563 => (if bt563.2 = true then (if (bt563.1 == x33) = true then (none) else (laws_FnPlacesAndLasts.l2 k x29 x33 (wrap64 (x39 + 1)) x539000 x539001)) else (none))) else (laws_FnPlacesAndLasts.l2 k x29 x33 (wrap64 (x39 + 1)) x539000 x539001))
def laws_FnPlacesAndLasts.j1 : Nat → List Int → Int → Int → Int → Int → List Int → Bool → Option (Bool)
  | 0, _, _, _, _, _, _, _ => none
  | k + 1, x1, x5, x6, x7, x8, x13, x176 => if x176 = true then (none) else (if x8 ≥ 2 then (laws_FnPlacesAndLasts.l0 k x1 x5 x6 x7 x8 x13 (x13.length : Int) 0) else (laws_FnPlacesAndLasts.j5 k x1))
def laws_FnPlacesAndLasts.l0 : Nat → List Int → Int → Int → Int → Int → List Int → Int → Int → Option (Bool)
  | 0, _, _, _, _, _, _, _, _ => none
  | k + 1, x1, x5, x6, x7, x8, x179, x180, x181 => if x181 < x180 then (if 0 ≤ x181 then (if x181 < (x179.length : Int) then (if x6 = (rd x179 x181) then (laws_FnPlacesAndLasts.j3 k x1 x5 x6 x7 x8 (wrap64 ((rd x179 x181) + 1)) x179 x180 x181) else (if x6 = (wrap64 ((rd x179 x181) + 1)) then (laws_FnPlacesAndLasts.j3 k x1 x5 x6 x7 x8 (rd x179 x181) x179 x180 x181) else (laws_FnPlacesAndLasts.j3 k x1 x5 x6 x7 x8 x6 x179 x180 x181))) else (none)) else (none)) else (laws_FnPlacesAndLasts.j5 k x1)
def laws_FnPlacesAndLasts.j3 : Nat → List Int → Int → Int → Int → Int → Int → List Int → Int → Int → Option (Bool)
  | 0, _, _, _, _, _, _, _, _, _ => none
  | k + 1, x1, x5, x6, x7, x8, x23, x179, x180, x181 => laws_FnPlacesAndLasts.l1 k x1 x5 x6 x7 x8 x23 0 x179 x180 x181
def laws_FnPlacesAndLasts.l1 : Nat → List Int → Int → Int → Int → Int → Int → Int → List Int → Int → Int → Option (Bool)
  | 0, _, _, _, _, _, _, _, _, _, _ => none
  | k + 1, x1, x5, x6, x7, x8, x23, x24, x179, x180, x181 => if x24 < (wrap64 (x5 - 1)) then (if x23 = x24 then ((impl_PlaceWinner.f k x5 (wrap64 (x24 + 1)) x7 (wrap64 (x8 - 2))).bind fun bt528 => (if bt528.2 = true then (if bt528.1 = true then (laws_FnPlacesAndLasts.l1 k x1 x5 x6 x7 x8 x23 (wrap64 (x24 + 1)) x179 x180 x181) else (none)) else (none))) else (if x23 = (wrap64 (x24 + 1)) then ((impl_PlaceWinner.f k x5 x24 x7 (wrap64 (x8 - 2))).bind fun bt530 => (if bt530.2 = true then (if bt530.1 = true then (laws_FnPlacesAndLasts.l1 k x1 x5 x6 x7 x8 x23 (wrap64 (x24 + 1)) x179 x180 x181) else (none)) else (none))) else ((impl_PlaceWinner.f k x5 x23 x7 (wrap64 (x8 - 2))).bind fun bt532 => (if bt532.2 = true then (if bt532.1 = true then (laws_FnPlacesAndLasts.l1 k x1 x5 x6 x7 x8 x23 (wrap64 (x24 + 1)) x179 x180 x181) else (none)) else (none))))) else (laws_FnPlacesAndLasts.l0 k x1 x5 x6 x7 x8 x179 x180 (wrap64 (x181 + 1)))
end
def laws_FnPlacesAndLasts.f (k : Nat) (l0 : List Int) (l1 : List Int) : Option (Bool) := (laws_big.f l0 l1).bind fun t499 => (if t499 = true then (some true) else ((spec_DrawPlaceWinner.f l0).bind fun bt500 => ((impl_PlaceWinner.f k bt500.1 bt500.2.1 bt500.2.2.1 bt500.2.2.2).bind fun bt504 => ((spec_PlaceWinner.f k bt500.1 bt500.2.1 bt500.2.2.1 bt500.2.2.2).bind fun bt506 => ((impl_GoodPlaces.f k bt500.1 bt500.2.1 bt500.2.2.1 bt500.2.2.2).bind fun bt508 => ((spec_GoodPlaces.f k bt500.1 bt500.2.1 bt500.2.2.1 bt500.2.2.2).bind fun bt512 => ((impl_PlacesWon.f k bt500.1 bt500.2.2.1 bt500.2.2.2).bind fun bt516 => ((spec_PlacesWon.f k bt500.1 bt500.2.2.1 bt500.2.2.2).bind fun bt520 => (if (bt504.2 != bt506.2) = true then (none) else (if (bt504.1 != bt506.1) = true then (none) else (if (bt508.2 != bt512.2) = true then (none) else ((laws_nSame.f k bt508.1 bt512.1).bind fun t524 => (if t524 = true then (if (bt516.2 != bt520.2) = true then (none) else ((laws_nSame.f k bt516.1 bt520.1).bind fun t525 => (if t525 = true then (if (bt508.2 != bt504.2) = true then (none) else (if bt504.2 = true then (if bt516.2 = true then ((laws_nHas.f k bt516.1 bt500.2.1).bind fun t526 => (laws_FnPlacesAndLasts.j0 k l1 bt500.1 bt500.2.1 bt500.2.2.1 bt500.2.2.2 bt504.1 bt504.2 bt508.1 (bt504.1 != t526))) else (none)) else (laws_FnPlacesAndLasts.j0 k l1 bt500.1 bt500.2.1 bt500.2.2.1 bt500.2.2.2 bt504.1 bt504.2 bt508.1 false))) else (none)))) else (none))))))))))))))

/-- THE ONE PURE STATEMENT of laws_FnPlacesAndLasts: yours. -/
def laws_FnPlacesAndLasts.Pure : Prop := ∀ (l0 : List Int) (l1 : List Int), l0.length ≤ maxLen → l0.length * 1 ≤ 140737488351232 → (∀ x ∈ l0, (Lit.int .u8 x).wf = true) → l1.length ≤ maxLen → l1.length * 1 ≤ 140737488351232 → (∀ x ∈ l1, (Lit.int .u8 x).wf = true) → ∃ k, laws_FnPlacesAndLasts.f k l0 l1 = some true

end Go.Proofs.Ytlmlamkbedfmhaa.P
end
section
set_option linter.unusedVariables false
set_option linter.unusedSimpArgs false
namespace Go.Proofs.Ytlmlamkbedfmhaa.P
open Go.RowKit Go.Proofs.YtlmlamkbedfmhaaW.PrintWords Go.Proofs.YtlmlamkbedfmhaaW.PrintLast Go.Proofs.YtlmlamkbedfmhaaW.PrintMore

theorem grow2_yes {p : Nat → Bool} {i d : Nat} {acc : List Int} (h : p i = true) : (acc ++ [((i : Nat) : Int)]) ++ ((List.range' (i + 1) d).filter p).map (fun r => ((r : Nat) : Int)) = acc ++ ((List.range' i (d + 1)).filter p).map (fun r => ((r : Nat) : Int)) := by
  rw [List.range'_succ, List.filter_cons_of_pos h, List.map_cons, List.append_assoc]; rfl
theorem grow2_no {p : Nat → Bool} {i d : Nat} {acc : List Int} (h : ¬ p i = true) : acc ++ ((List.range' (i + 1) d).filter p).map (fun r => ((r : Nat) : Int)) = acc ++ ((List.range' i (d + 1)).filter p).map (fun r => ((r : Nat) : Int)) := by
  rw [List.range'_succ, List.filter_cons_of_neg h]
/-- The rungs that may be put at a least ladder's end. -/
def lastsOf (n : Nat) (p : List Int) : List Int := ((List.range' 0 (n - 1)).filter fun r => bef ((r : Nat) : Int) (((r : Nat) : Int) + 1) p).map fun r => ((r : Nat) : Int)
def lastsIf (n : Int) (l : List Int) : List Int × Bool := if lasting n l = true then (lastsOf n.toNat (ends n.toNat l), true) else ([], false)
theorem bef_not {a b : Int} {p : List Int} (hn : p.Nodup) (h : bef a b p = true) : bef b a p = false := by
  cases e : bef b a p
  · rfl
  · have h1 := (bef_iff hn).1 h
    have h2 := (bef_iff hn).1 e
    omega
theorem rungsOk_snoc {n : Nat} {l : List Int} (h : rungsOk n l) (h1 : l.length ≤ 60) {r : Nat} (hr : r + 1 < n) : rungsOk n (l ++ [(r : Int)]) := by
  refine ⟨?_, by simp; omega⟩
  intro q hq
  rw [List.mem_append, List.mem_singleton] at hq
  rcases hq with hq | rfl
  · exact h.1 q hq
  · omega
/-- One rung more: by one pair more or by one less. -/
theorem one_more {n : Nat} {l : List Int} (h : rungsOk n l) {r : Nat} (hr : r + 1 < n) : inv (ends n (l ++ [(r : Int)])) = if bef (r : Int) ((r : Int) + 1) (ends n l) = true then inv (ends n l) + 1 else inv (ends n l) - 1 := by
  have hp := ends_isP (n := n) (l := l) h.1
  have e := inv_over (r := (r : Int)) hp.2.1
  rw [ends_snoc]
  by_cases c : bef (r : Int) ((r : Int) + 1) (ends n l) = true
  · have d := bef_not hp.2.1 c
    rw [c, d] at e
    rw [if_pos c]; simpa using e
  · rw [if_neg c]
    have m1 : (r : Int) ∈ ends n l := (hp.2.2 _).2 (by omega)
    have m2 : (r : Int) + 1 ∈ ends n l := (hp.2.2 _).2 (by omega)
    have d : bef ((r : Int) + 1) (r : Int) (ends n l) = true := by
      have i := idx_ne m1 m2 (by omega)
      have : ¬ (ends n l).idxOf (r : Int) < (ends n l).idxOf ((r : Int) + 1) := fun z => c ((bef_iff hp.2.1).2 ⟨m1, m2, z⟩)
      exact (bef_iff hp.2.1).2 ⟨m2, m1, by omega⟩
    have c : bef (r : Int) ((r : Int) + 1) (ends n l) = false := by simpa using c
    rw [c, d] at e
    simp at e; omega
theorem specLast_loop (n : Nat) (hn : 2 ≤ n) (hn8 : n ≤ 8) (p : List Int) (h : isP n p) (l : List Int) : ∀ q i : Nat, i + q = n - 1 → ∀ acc : List Int, acc.length ≤ i →
    Ev (fun k => spec_LastMoves.l0 k (backUpTo n p n) acc (i : Int) (n : Int) l) (acc ++ ((List.range' i q).filter fun r => bef ((r : Nat) : Int) (((r : Nat) : Int) + 1) p).map (fun r => ((r : Nat) : Int)), true) := by
  have hl := back_length n p n
  intro q
  induction q with
  | zero =>
    intro i hi acc ha
    refine Ev.step (fun k => by rw [spec_LastMoves.l0]) ?_
    rw [w64 (x := (n : Int) - 1) (by omega) (by omega)]
    exact Ev.no (by omega) (Ev.ret (by simp))
  | succ q ih =>
    intro i hi acc ha
    refine Ev.step (fun k => by rw [spec_LastMoves.l0]) ?_
    rw [w64 (x := (n : Int) - 1) (by omega) (by omega), w64i (show i < n by omega) (by omega)]
    refine Ev.yes (by omega) (Ev.yes (by omega) (Ev.yes (by omega) (Ev.yes (by omega) (Ev.yes (by omega) ?_))))
    rw [back_at h (by omega), back_at h (by omega)]
    have m1 : (i : Int) ∈ p := (h.2.2 _).2 (by omega)
    have m2 : (i : Int) + 1 ∈ p := (h.2.2 _).2 (by omega)
    have e : (((i + 1 : Nat) : Int)) = (i : Int) + 1 := by omega
    by_cases c : bef (i : Int) ((i : Int) + 1) p = true
    · have := (bef_iff h.2.1).1 c
      refine Ev.yes (by rw [e]; omega) (Ev.yes (by omega) (Ev.eq (ih (i + 1) (by omega) _ (by simp; omega)) ?_))
      rw [grow2_yes c]
    · have g : ¬ p.idxOf (i : Int) < p.idxOf ((i : Int) + 1) := fun z => c ((bef_iff h.2.1).2 ⟨m1, m2, z⟩)
      refine Ev.no (by rw [e]; omega) (Ev.eq (ih (i + 1) (by omega) _ (by omega)) ?_)
      rw [grow2_no c]
theorem specLast_ev (n : Int) (l : List Int) (hb : l.length ≤ 9223372036854775807) : Ev (fun k => spec_LastMoves.f k n l) (lastsIf n l) := by
  unfold spec_LastMoves.f lastsIf
  refine Ev.bind (gaLasting_ev n l hb) ?_
  by_cases h : lasting n l = true
  · rw [if_pos h]
    have hl : ladderOk n l = true := by unfold lasting at h; simp at h; exact h.1
    obtain ⟨m, rfl⟩ : ∃ m : Nat, n = m := ⟨n.toNat, by have := ladderOk_wires hl; omega⟩
    have g := ladder_rungs hl
    have hp := ends_isP (n := m) (l := l) g.2.2.2.1
    refine Ev.yes h (Ev.bind (laResult_ev m g.2.1 l g.2.2.2) (Ev.bind (back_ev m g.2.1 _ hp) ?_))
    exact Ev.eq (specLast_loop m g.1 g.2.1 _ hp l (m - 1) 0 (by omega) [] (by simp)) (by simp [lastsOf])
  · rw [if_neg h]; exact Ev.no h (Ev.ret rfl)
theorem Clone2_eq (l : List Int) (h : l.length < 17592186044416) : slices_Clone_int_int.f l = some l := by
  unfold slices_Clone_int_int.f; rw [if_pos h]
theorem implLast_loop (n : Nat) (hn : 2 ≤ n) (hn8 : n ≤ 8) (l : List Int) (h : rungsOk n l) (h60 : l.length ≤ 60) (hi0 : l.length = inv (ends n l)) : ∀ q i : Nat, i + q = n - 1 → ∀ acc : List Int, acc.length ≤ i →
    Ev (fun k => impl_LastMoves.l0 k acc ((n - 1 : Nat) : Int) (i : Int) (n : Int) l) (acc ++ ((List.range' i q).filter fun r => bef ((r : Nat) : Int) (((r : Nat) : Int) + 1) (ends n l)).map (fun r => ((r : Nat) : Int)), true) := by
  intro q
  induction q with
  | zero =>
    intro i hi acc ha
    refine Ev.step (fun k => by rw [impl_LastMoves.l0]) ?_
    exact Ev.no (by omega) (Ev.ret (by simp))
  | succ q ih =>
    intro i hi acc ha
    have b := inv_le (ends n l)
    have om := one_more h (r := i) (by omega)
    refine Ev.step (fun k => by rw [impl_LastMoves.l0]) ?_
    rw [w64i (show i < n by omega) (by omega)]
    refine Ev.yes (by omega) (Ev.known (Clone2_eq l (by omega)) (Ev.known rfl (Ev.yes (by simp; omega) ?_)))
    refine Ev.bind (needless_ev n hn8 _ (rungsOk_snoc h h60 (by omega))) ?_
    have e : ((l ++ [(i : Int)]).length : Int) = (l.length : Int) + 1 := by simp
    by_cases c : bef (i : Int) ((i : Int) + 1) (ends n l) = true
    · rw [if_pos c] at om
      refine Ev.yes (by omega) (Ev.known rfl (Ev.yes (by simp; omega) (Ev.eq (ih (i + 1) (by omega) _ (by simp; omega)) ?_)))
      rw [grow2_yes c]
    · rw [if_neg c] at om
      refine Ev.no (by omega) (Ev.eq (ih (i + 1) (by omega) _ (by omega)) ?_)
      rw [grow2_no c]
theorem implLast_ev (n : Int) (l : List Int) : Ev (fun k => impl_LastMoves.f k n l) (lastsIf n l) := by
  unfold impl_LastMoves.f lastsIf
  refine Ev.known (isLadder_eq n l) ?_
  by_cases hl : ladderOk n l = true
  · obtain ⟨m, rfl⟩ : ∃ m : Nat, n = m := ⟨n.toNat, by have := ladderOk_wires hl; omega⟩
    have g := ladder_rungs hl
    refine Ev.yes hl (Ev.bind (needless_ev m g.2.1 l g.2.2.2) ?_)
    refine Ev.step (fun k => by rw [impl_LastMoves.j0]) ?_
    by_cases c : l.length = inv (ends m l)
    · rw [if_pos (by simp [lasting, hl, c])]
      refine Ev.no (by simp; omega) ?_
      rw [w64 (by omega) (by omega)]
      have e : (m : Int) - 1 = ((m - 1 : Nat) : Int) := by omega
      rw [e]
      exact Ev.eq (implLast_loop m g.1 g.2.1 l g.2.2.2 g.2.2.1 c (m - 1) 0 (by omega) [] (by simp)) (by simp [lastsOf])
    · rw [if_neg (by simp [lasting, hl, c])]
      exact Ev.yes (by simp; omega) (Ev.ret rfl)
  · rw [if_neg (by simp [lasting, hl])]
    refine Ev.no hl ?_
    refine Ev.step (fun k => by rw [impl_LastMoves.j0]) ?_
    exact Ev.yes rfl (Ev.ret rfl)
/-- Who makes the last move. -/
def winsOf (n : Int) (m : Int) : Bool := (((n * (n - 1)).tdiv 2 - m).tmod 2) == 1
def winsIf (n : Int) (l : List Int) : Bool × Bool := if lasting n l = true then (winsOf n l.length, true) else (false, false)
theorem wins_wrap {n : Int} {m : Nat} (h : 2 ≤ n) (h8 : n ≤ 8) (hm : m ≤ 1000) :
    ((Int.tmod (wrap64 ((wrap64 (Int.tdiv (wrap64 (n * (wrap64 (n - 1)))) 2)) - (m : Int))) 2) == 1) = winsOf n m := by
  have : n = 2 ∨ n = 3 ∨ n = 4 ∨ n = 5 ∨ n = 6 ∨ n = 7 ∨ n = 8 := by omega
  unfold winsOf
  have key : ∀ c : Int, 0 ≤ c → c ≤ 100 → wrap64 (c - (m : Int)) = c - m := fun c h1 h2 => w64 (by omega) (by omega)
  rcases this with rfl | rfl | rfl | rfl | rfl | rfl | rfl
  · rw [show wrap64 (Int.tdiv (wrap64 ((2 : Int) * (wrap64 (2 - 1)))) 2) = 1 from by decide +kernel, key 1 (by omega) (by omega)]; rfl
  · rw [show wrap64 (Int.tdiv (wrap64 ((3 : Int) * (wrap64 (3 - 1)))) 2) = 3 from by decide +kernel, key 3 (by omega) (by omega)]; rfl
  · rw [show wrap64 (Int.tdiv (wrap64 ((4 : Int) * (wrap64 (4 - 1)))) 2) = 6 from by decide +kernel, key 6 (by omega) (by omega)]; rfl
  · rw [show wrap64 (Int.tdiv (wrap64 ((5 : Int) * (wrap64 (5 - 1)))) 2) = 10 from by decide +kernel, key 10 (by omega) (by omega)]; rfl
  · rw [show wrap64 (Int.tdiv (wrap64 ((6 : Int) * (wrap64 (6 - 1)))) 2) = 15 from by decide +kernel, key 15 (by omega) (by omega)]; rfl
  · rw [show wrap64 (Int.tdiv (wrap64 ((7 : Int) * (wrap64 (7 - 1)))) 2) = 21 from by decide +kernel, key 21 (by omega) (by omega)]; rfl
  · rw [show wrap64 (Int.tdiv (wrap64 ((8 : Int) * (wrap64 (8 - 1)))) 2) = 28 from by decide +kernel, key 28 (by omega) (by omega)]; rfl
theorem winsIf_yes {n : Int} {l : List Int} (h : lasting n l = true) : winsIf n l = (winsOf n l.length, true) := if_pos h
theorem winsIf_no {n : Int} {l : List Int} (h : ¬ lasting n l = true) : winsIf n l = (false, false) := if_neg h
theorem specWins_ev (n : Int) (l : List Int) (hb : l.length ≤ 9223372036854775807) : Ev (fun k => spec_LastWins.f k n l) (winsIf n l) := by
  unfold spec_LastWins.f
  refine Ev.bind (gaLasting_ev n l hb) ?_
  by_cases h : lasting n l = true
  · rw [winsIf_yes h]
    have hl : ladderOk n l = true := by unfold lasting at h; simp at h; exact h.1
    have a := ladderOk_wires hl
    have b := ladderOk_len hl
    rw [← wins_wrap a.1 a.2 (show l.length ≤ 1000 by omega)]
    exact Ev.yes h (Ev.ret rfl)
  · rw [winsIf_no h]; exact Ev.no h (Ev.ret rfl)
theorem implWins_ev (n : Int) (l : List Int) : Ev (fun k => impl_LastWins.f k n l) (winsIf n l) := by
  unfold impl_LastWins.f
  refine Ev.known (isLadder_eq n l) ?_
  by_cases hl : ladderOk n l = true
  · have a := ladderOk_wires hl
    have b := ladderOk_len hl
    obtain ⟨m, rfl⟩ : ∃ m : Nat, n = m := ⟨n.toNat, by omega⟩
    have g := ladder_rungs hl
    refine Ev.yes hl (Ev.bind (needless_ev m g.2.1 l g.2.2.2) ?_)
    by_cases c : l.length = inv (ends m l)
    · rw [winsIf_yes (by simp [lasting, hl, c]), ← wins_wrap a.1 a.2 (show l.length ≤ 1000 by omega)]
      exact Ev.yes (by omega) (Ev.ret rfl)
    · rw [winsIf_no (by simp [lasting, hl, c])]
      exact Ev.no (by omega) (Ev.ret rfl)
  · rw [winsIf_no (by simp [lasting, hl])]
    exact Ev.no hl (Ev.ret rfl)
def leastIf (n : Int) (l : List Int) : Bool × Bool := if ladderOk n l = true then (lasting n l, true) else (false, false)
theorem isLeast_ev (n : Int) (l : List Int) : Ev (fun k => impl_IsLeast.f k n l) (leastIf n l) := by
  unfold impl_IsLeast.f leastIf
  refine Ev.known (isLadder_eq n l) ?_
  by_cases hl : ladderOk n l = true
  · rw [if_pos hl]
    obtain ⟨m, rfl⟩ : ∃ m : Nat, n = m := ⟨n.toNat, by have := ladderOk_wires hl; omega⟩
    have g := ladder_rungs hl
    refine Ev.yes hl (Ev.bind (needless_ev m g.2.1 l g.2.2.2) (Ev.ret ?_))
    unfold lasting
    by_cases c : l.length = inv (ends m l)
    · simp [hl, c]
    · simp [hl, c]; omega
  · rw [if_neg hl]; exact Ev.no hl (Ev.ret rfl)
theorem addEnd_ev (n : Int) (l : List Int) (h : ladderOk n l = true) (r : Int) : Ev (fun k => impl_AddRung.f k n l (l.length : Int) r) (ladderIf n (l ++ [r])) := by
  have b := ladderOk_len h
  unfold impl_AddRung.f
  refine Ev.known (isLadder_eq n l) (Ev.yes h (Ev.known (impl_between_eq _ _ _) ?_))
  refine Ev.step (fun k => by rw [impl_AddRung.j0]) ?_
  refine Ev.no (by simp) (Ev.known (Clone2_eq l (by omega)) ?_)
  have e : slices_Insert_int_int.f l (l.length : Int) [r] = some (l ++ [r]) := by
    unfold slices_Insert_int_int.f; simp; omega
  refine Ev.known e (Ev.known (checked_eq _ _) (Ev.ret rfl))
end Go.Proofs.Ytlmlamkbedfmhaa.P
end
section
set_option linter.unusedVariables false
set_option linter.unusedSimpArgs false
namespace Go.Proofs.Ytlmlamkbedfmhaa.P
open Go Go.RowKit Go.Proofs.YtlmlamkbedfmhaaW.PrintWords Go.Proofs.YtlmlamkbedfmhaaW.PrintLast Go.Proofs.YtlmlamkbedfmhaaW.PrintMore

theorem nSame_loop (a : List Int) (ha : a.length ≤ 1000) : ∀ d i : Nat, i + d = a.length → Ev (fun k => laws_nSame.l0 k a a (a.length : Int) (i : Int)) true := by
  intro d
  induction d with
  | zero =>
    intro i hi
    exact Ev.step (fun k => by rw [laws_nSame.l0]) (Ev.no (by omega) (Ev.ret rfl))
  | succ d ih =>
    intro i hi
    refine Ev.step (fun k => by rw [laws_nSame.l0]) ?_
    refine Ev.yes (by omega) (Ev.yes (by omega) (Ev.yes (by omega) (Ev.yes (by omega) (Ev.yes rfl ?_))))
    rw [w64i (show i < a.length by omega) (by omega)]
    exact ih (i + 1) (by omega)
theorem nSame_ev (a : List Int) (ha : a.length ≤ 1000) : Ev (fun k => laws_nSame.f k a a) true := by
  unfold laws_nSame.f
  exact Ev.yes rfl (nSame_loop a ha a.length 0 (by omega))
theorem nHas_loop (x : Int) (a : List Int) (ha : a.length ≤ 1000) : ∀ d i : Nat, i + d = a.length → Ev (fun k => laws_nHas.l0 k x a (a.length : Int) (i : Int)) (decide (x ∈ a.drop i)) := by
  intro d
  induction d with
  | zero =>
    intro i hi
    refine Ev.step (fun k => by rw [laws_nHas.l0]) (Ev.no (by omega) (Ev.ret ?_))
    rw [List.drop_eq_nil_of_le (by omega)]; rfl
  | succ d ih =>
    intro i hi
    have hi' : i < a.length := by omega
    refine Ev.step (fun k => by rw [laws_nHas.l0]) ?_
    refine Ev.yes (by omega) (Ev.yes (by omega) (Ev.yes (by omega) ?_))
    rw [rd_nat hi', w64i hi' (by omega), List.drop_eq_getElem_cons hi']
    by_cases c : a[i] = x
    · exact Ev.yes c (Ev.ret (by simp [c]))
    · refine Ev.no c (Ev.eq (ih (i + 1) (by omega)) ?_)
      have : ¬ x = a[i] := fun z => c z.symm
      simp only [List.mem_cons, this, false_or]
theorem nHas_ev (a : List Int) (x : Int) (ha : a.length ≤ 1000) : Ev (fun k => laws_nHas.f k a x) (decide (x ∈ a)) := by
  unfold laws_nHas.f
  simpa using nHas_loop x a ha a.length 0 (by omega)
/-! ### lasting games -/
theorem lasts_mem {n : Nat} {p : List Int} {r : Nat} (hr : r + 1 < n) : (((r : Nat) : Int) ∈ lastsOf n p) ↔ bef (r : Int) ((r : Int) + 1) p = true := by
  unfold lastsOf
  rw [List.mem_map]
  constructor
  · rintro ⟨q, hq, e⟩
    have e : q = r := by omega
    subst e
    exact (List.mem_filter.1 hq).2
  · intro h
    exact ⟨r, List.mem_filter.2 ⟨by rw [List.mem_range'_1]; omega, h⟩, rfl⟩
theorem lastsOf_len (n : Nat) (p : List Int) : (lastsOf n p).length ≤ n - 1 := by
  unfold lastsOf
  rw [List.length_map]
  exact Nat.le_trans (List.length_filter_le _ _) (by simp)
theorem lasts_nil {n : Nat} {p : List Int} (h : isP n p) (e : lastsOf n p = []) : 2 * inv p + n = n * n := by
  refine worst h ?_
  intro r h0 h1
  obtain ⟨q, rfl⟩ := Int.eq_ofNat_of_zero_le h0
  cases c : bef ((q : Nat) : Int) (((q : Nat) : Int) + 1) p
  · rfl
  · have := (lasts_mem (p := p) (r := q) (n := n) (by omega)).2 c
    rw [e] at this; simp at this
theorem wins_flip {n : Nat} (h : 2 ≤ n) (h8 : n ≤ 8) {m : Nat} (hm : 2 * (m + 1) + n ≤ n * n) : winsOf n ((m + 1 : Nat) : Int) = !winsOf n (m : Nat) := by
  have : n = 2 ∨ n = 3 ∨ n = 4 ∨ n = 5 ∨ n = 6 ∨ n = 7 ∨ n = 8 := by omega
  unfold winsOf
  have key : ∀ c : Int, (m : Int) + 1 ≤ c → (((c - ((m + 1 : Nat) : Int)).tmod 2) == 1) = !(((c - (m : Int)).tmod 2) == 1) := by
    intro c hc
    rw [Int.tmod_eq_emod_of_nonneg (by omega), Int.tmod_eq_emod_of_nonneg (by omega)]
    by_cases z : (c - (m : Int)) % 2 = 1
    · have : (c - ((m + 1 : Nat) : Int)) % 2 = 0 := by omega
      rw [z, this]; rfl
    · have : (c - ((m + 1 : Nat) : Int)) % 2 = 1 := by omega
      have z2 : (c - (m : Int)) % 2 = 0 := by omega
      rw [z2, this]; rfl
  rcases this with rfl | rfl | rfl | rfl | rfl | rfl | rfl
  · exact key 1 (by omega)
  · exact key 3 (by omega)
  · exact key 6 (by omega)
  · exact key 10 (by omega)
  · exact key 15 (by omega)
  · exact key 21 (by omega)
  · exact key 28 (by omega)
theorem wins_worst {n : Nat} (h : 2 ≤ n) (h8 : n ≤ 8) {m : Nat} (hm : 2 * m + n = n * n) : winsOf n (m : Nat) = false := by
  have : n = 2 ∨ n = 3 ∨ n = 4 ∨ n = 5 ∨ n = 6 ∨ n = 7 ∨ n = 8 := by omega
  rcases this with rfl | rfl | rfl | rfl | rfl | rfl | rfl
  · obtain rfl : m = 1 := by omega
    decide
  · obtain rfl : m = 3 := by omega
    decide
  · obtain rfl : m = 6 := by omega
    decide
  · obtain rfl : m = 10 := by omega
    decide
  · obtain rfl : m = 15 := by omega
    decide
  · obtain rfl : m = 21 := by omega
    decide
  · obtain rfl : m = 28 := by omega
    decide
theorem last_l2 (n : Nat) (l : List Int) (hl : ladderOk (n : Int) l = true) (he : l.length = inv (ends n l)) : ∀ d i : Nat, i + d = n - 1 →
    Ev (fun k => laws_FnPlacesAndLasts.l2 k (lastsOf n (ends n l)) (winsOf n l.length) (i : Int) (n : Int) l) true := by
  have g := ladder_rungs hl
  have lk := ladderOk_iff.1 hl
  have hp := ends_isP (n := n) (l := l) g.2.2.2.1
  have b := inv_le (ends n l)
  rw [ends_length] at b
  have b28 : 2 * inv (ends n l) ≤ 56 := by
    have : n = 2 ∨ n = 3 ∨ n = 4 ∨ n = 5 ∨ n = 6 ∨ n = 7 ∨ n = 8 := by omega
    rcases this with e | e | e | e | e | e | e <;> rw [e] at b <;> rw [e] <;> omega
  have ll := lastsOf_len n (ends n l)
  intro d
  induction d with
  | zero =>
    intro i hi
    refine Ev.step (fun k => by rw [laws_FnPlacesAndLasts.l2]) ?_
    rw [w64 (by omega) (by omega)]
    exact Ev.no (by omega) (Ev.ret rfl)
  | succ d ih =>
    intro i hi
    have hr : i + 1 < n := by omega
    have om := one_more g.2.2.2 hr
    have ro := rungsOk_snoc g.2.2.2 g.2.2.1 hr
    have ladd : ladderOk (n : Int) (l ++ [(i : Int)]) = true := by
      rw [ladderOk_iff]
      refine ⟨lk.1, lk.2.1, by simp; omega, ?_⟩
      intro q hq
      have := ro.1 q hq; omega
    have e : ladderIf (n : Int) (l ++ [(i : Int)]) = ((n : Int), l ++ [(i : Int)], true) := by unfold ladderIf; rw [if_pos ladd]
    have e2 : leastIf (n : Int) (l ++ [(i : Int)]) = (lasting (n : Int) (l ++ [(i : Int)]), true) := by unfold leastIf; rw [if_pos ladd]
    have e3 : lasting (n : Int) (l ++ [(i : Int)]) = bef (i : Int) ((i : Int) + 1) (ends n l) := by
      unfold lasting
      rw [ladd, Int.toNat_natCast, om, Bool.true_and]
      cases c : bef (i : Int) ((i : Int) + 1) (ends n l)
      · simp; omega
      · simp; omega
    refine Ev.step (fun k => by rw [laws_FnPlacesAndLasts.l2]) ?_
    rw [w64 (x := (n : Int) - 1) (by omega) (by omega)]
    refine Ev.yes (by omega) (Ev.bind (Ev.eq (addEnd_ev (n : Int) l hl (i : Int)) e) (Ev.bind (Ev.eq (isLeast_ev _ _) e2) ?_))
    refine Ev.yes rfl (Ev.yes rfl (Ev.bind (nHas_ev _ _ (by omega)) ?_))
    refine Ev.step (fun k => by rw [laws_FnPlacesAndLasts.j9]) ?_
    rw [w64i (show i < n by omega) (by omega)]
    refine Ev.no ?_ ?_
    · rw [e3]
      simp only [bne_iff_ne, ne_eq, Decidable.not_not]
      rw [Bool.eq_iff_iff, decide_eq_true_iff, lasts_mem hr]
    · by_cases c : lasting (n : Int) (l ++ [(i : Int)]) = true
      · refine Ev.yes c ?_
        have cb := c
        rw [e3] at cb
        rw [if_pos cb] at om
        have b2 := inv_le (ends n (l ++ [(i : Int)]))
        rw [ends_length] at b2
        refine Ev.bind (Ev.eq (implWins_ev _ _) (winsIf_yes c)) (Ev.yes rfl (Ev.no ?_ (ih (i + 1) (by omega))))
        have : (l ++ [(i : Int)]).length = l.length + 1 := by simp
        rw [this, wins_flip g.1 g.2.1 (by omega)]
        cases winsOf n (l.length : Nat) <;> simp
      · exact Ev.no c (ih (i + 1) (by omega))
theorem last_j5 {l1 : List Int} (h : bytesOk l1) : Ev (fun k => laws_FnPlacesAndLasts.j5 k l1) true := by
  obtain ⟨w, q, s', t', hd, hq, _⟩ := least_ok h (b := 0) (s := 0) ⟨by omega, by omega, by omega⟩ 0 6 (by omega) (by omega) (by omega)
  have draw : Ev (fun k => spec_DrawLastMoves.f k l1) (w, q) := by
    unfold spec_DrawLastMoves.f spec_DrawLastWins.f
    exact Ev.bind (Ev.bind hd (Ev.ret rfl)) (Ev.ret rfl)
  refine Ev.step (fun k => by rw [laws_FnPlacesAndLasts.j5]) ?_
  refine Ev.bind draw (Ev.bind (implLast_ev w q) (Ev.bind (specLast_ev w q (by omega)) (Ev.bind (implWins_ev w q) (Ev.bind (specWins_ev w q (by omega)) ?_))))
  refine Ev.no (by simp) ?_
  by_cases c : lasting w q = true
  · have hl : ladderOk w q = true := by unfold lasting at c; simp at c; exact c.1
    obtain ⟨n, rfl⟩ : ∃ n : Nat, w = n := ⟨w.toNat, by have := ladderOk_wires hl; omega⟩
    have g := ladder_rungs hl
    have hp := ends_isP (n := n) (l := q) g.2.2.2.1
    have he : q.length = inv (ends n q) := by unfold lasting at c; simp at c; exact c.2
    have e1 : lastsIf (n : Int) q = (lastsOf n (ends n q), true) := by unfold lastsIf; rw [if_pos c]; rfl
    have e2 : leastIf (n : Int) q = (true, true) := by unfold leastIf; rw [if_pos hl, c]
    have ll := lastsOf_len n (ends n q)
    rw [e1, winsIf_yes c]
    refine Ev.bind (nSame_ev (lastsOf n (ends n q)) (by omega)) (Ev.yes rfl (Ev.no (by simp) (Ev.no (by simp) ?_)))
    refine Ev.step (fun k => by rw [laws_FnPlacesAndLasts.j6]) ?_
    refine Ev.no (by simp) (Ev.yes rfl (Ev.bind (Ev.eq (isLeast_ev _ _) e2) (Ev.yes rfl (Ev.yes rfl ?_))))
    have fin : Ev (fun k => laws_FnPlacesAndLasts.l2 k (lastsOf n (ends n q)) (winsOf n q.length) 0 (n : Int) q) true := by
      simpa using last_l2 n q hl he (n - 1) 0 (by omega)
    by_cases z : lastsOf n (ends n q) = []
    · refine Ev.yes (by rw [z]; rfl) ?_
      refine Ev.step (fun k => by rw [laws_FnPlacesAndLasts.j7]) ?_
      refine Ev.no ?_ fin
      have := lasts_nil hp z
      rw [wins_worst g.1 g.2.1 (by omega)]; simp
    · have zl : 0 < (lastsOf n (ends n q)).length := List.length_pos_iff.2 z
      refine Ev.no (show ¬ ((lastsOf n (ends n q)).length : Int) = 0 by omega) ?_
      refine Ev.step (fun k => by rw [laws_FnPlacesAndLasts.j7]) ?_
      exact Ev.no (by simp) fin
  · have e1 : lastsIf w q = ([], false) := by unfold lastsIf; rw [if_neg c]
    rw [e1, winsIf_no c]
    refine Ev.bind (nSame_ev _ (by simp)) (Ev.yes rfl (Ev.no (by simp) (Ev.no (by simp) ?_)))
    refine Ev.step (fun k => by rw [laws_FnPlacesAndLasts.j6]) ?_
    exact Ev.no (by simp) (Ev.no (by simp) (Ev.ret rfl))
end Go.Proofs.Ytlmlamkbedfmhaa.P
end
section
set_option linter.unusedVariables false
set_option linter.unusedSimpArgs false
namespace Go.Proofs.Ytlmlamkbedfmhaa.P
open Go Go.RowKit Go.Proofs.YtlmlamkbedfmhaaW.PrintWords Go.Proofs.YtlmlamkbedfmhaaW.PrintLast Go.Proofs.YtlmlamkbedfmhaaW.PrintMore

theorem drawPlace_ok {l : List Int} (h : bytesOk l) : ∃ n x goal moves, spec_DrawPlaceWinner.f l = some (n, x, goal, moves) := by
  obtain ⟨v1, s1, t1, e1, _, a1⟩ := among_ok h (b := 0) (s := 0) ⟨by omega, by omega, by omega⟩ (by omega) 0 [2, 3, 4, 5, 8, 3, 4, 5, 1, 9] (by simp)
  obtain ⟨v2, s2, t2, e2, _, _, a2⟩ := pick_ok h a1 (by omega) t1 6
  obtain ⟨v3, s3, t3, e3, _, _, a3⟩ := pick_ok h a2 (by omega) t2 2
  obtain ⟨v4, s4, t4, e4, _, _, a4⟩ := pick_ok h a3 (by omega) t3 6
  obtain ⟨v5, s5, t5, e5, _, _, a5⟩ := pick_ok h a4 (by omega) t4 2
  obtain ⟨v6, s6, t6, e6, _, a6⟩ := among_ok h a5 (by omega) t5 [0, 1, 2, 3, 4, 5, 6, 7, 8, 9, (-1)] (by simp)
  unfold spec_DrawPlaceWinner.f
  simp only [e1, e2, e3, e4, e5, e6, Option.bind_some]
  exact ⟨_, _, _, _, rfl⟩
theorem goodPlaces_len (n x goal moves : Int) : (goodPlaces n x goal moves).length ≤ n.toNat - 1 := by
  unfold goodPlaces
  rw [List.length_map]
  exact Nat.le_trans (List.length_filter_le _ _) (by simp)
theorem placesWon_len (n goal moves : Int) : (placesWon n goal moves).length ≤ n.toNat := by
  unfold placesWon
  rw [List.length_map]
  exact Nat.le_trans (List.length_filter_le _ _) (by simp)
theorem won_mem (a b c d : Nat) (h : b < a) : decide (((b : Nat) : Int) ∈ placesWon (a : Int) (c : Int) (d : Int)) = pl a c d true b := by
  rw [Bool.eq_iff_iff, decide_eq_true_iff]
  unfold placesWon
  rw [List.mem_map]
  constructor
  · rintro ⟨q, hq, e⟩
    have e : q = b := by omega
    subst e
    simpa using (List.mem_filter.1 hq).2
  · intro z
    exact ⟨b, List.mem_filter.2 ⟨by rw [List.mem_range'_1]; omega, by simpa using z⟩, rfl⟩
theorem good_mem {a b c d : Nat} {g : Int} (h : g ∈ goodPlaces (a : Int) (b : Int) (c : Int) (d : Int)) : ∃ r : Nat, g = r ∧ r + 1 < a ∧ pl a c (d - 1) false (over b r) = true := by
  unfold goodPlaces at h
  rw [List.mem_map] at h
  obtain ⟨r, hr, rfl⟩ := h
  have := List.mem_filter.1 hr
  rw [List.mem_range'_1] at this
  have h2 := this.2
  simp at h2
  refine ⟨r, rfl, ?_, by simpa using h2.2⟩
  have := this.1
  simp at this; omega
theorem good_pos (a b c d : Nat) (hd : 0 < d) : decide (((goodPlaces (a : Int) (b : Int) (c : Int) (d : Int)).length : Int) > 0) = pl a c d true b := by
  obtain ⟨m, rfl⟩ : ∃ m, d = m + 1 := ⟨d - 1, by omega⟩
  rw [Bool.eq_iff_iff, decide_eq_true_iff]
  unfold goodPlaces
  rw [List.length_map]
  have e : ((((List.range' 0 ((a : Int).toNat - 1)).filter fun r => decide ((0 : Int) < ((m + 1 : Nat) : Int)) && pl (a : Int).toNat (c : Int) (((m + 1 : Nat) : Int).toNat - 1) false (over (b : Int) (r : Nat))).length : Int) > 0) ↔ 0 < ((List.range' 0 (a - 1)).filter fun r => pl a (c : Int) m false (over (b : Int) (r : Nat))).length := by
    have : (fun r : Nat => decide ((0 : Int) < ((m + 1 : Nat) : Int)) && pl (a : Int).toNat (c : Int) (((m + 1 : Nat) : Int).toNat - 1) false (over (b : Int) (r : Nat))) = fun r : Nat => pl a (c : Int) m false (over (b : Int) (r : Nat)) := by
      funext r
      have h1 : decide ((0 : Int) < ((m + 1 : Nat) : Int)) = true := by simp
      rw [h1, Int.toNat_natCast, Int.toNat_natCast, Bool.true_and]; rfl
    rw [this, Int.toNat_natCast]
    omega
  rw [e, List.length_filter_pos_iff]
  simp only [pl, List.any_eq_true]
theorem place_l1 (l1 : List Int) (a c d : Nat) (goods : List Int) (i : Int) (h1 : 2 ≤ a) (h2 : a ≤ 8) (h4 : c < a) (hd2 : 2 ≤ d) (h5 : d ≤ 8) (b : Nat) (p : Int) (hp0 : 0 ≤ p) (hp1 : p < a) (good : pl a c (d - 1) false p = true)
    (next : Ev (fun k => laws_FnPlacesAndLasts.l0 k l1 (a : Int) (b : Int) (c : Int) (d : Int) goods (goods.length : Int) (wrap64 (i + 1))) true) :
    ∀ q j : Nat, j + q = a - 1 → Ev (fun k => laws_FnPlacesAndLasts.l1 k l1 (a : Int) (b : Int) (c : Int) (d : Int) p (j : Int) goods (goods.length : Int) i) true := by
  intro q
  induction q with
  | zero =>
    intro j hj
    refine Ev.step (fun k => by rw [laws_FnPlacesAndLasts.l1]) ?_
    rw [w64 (x := (a : Int) - 1) (by omega) (by omega)]
    exact Ev.no (by omega) next
  | succ q ih =>
    intro j hj
    obtain ⟨m, rfl⟩ : ∃ m, d = m + 2 := ⟨d - 2, by omega⟩
    have ob := over_bound (n := a) (x := p) (r := (j : Nat)) hp0 hp1 (by omega) (by omega)
    have all : pl a c m true (over p (j : Nat)) = true := by
      have e : m + 2 - 1 = m + 1 := by omega
      rw [e] at good
      simp only [pl, List.all_eq_true] at good
      exact good j (by rw [List.mem_range'_1]; omega)
    have e0 : wrap64 (((m + 2 : Nat) : Int) - 2) = (m : Nat) := by rw [w64 (by omega) (by omega)]; omega
    have win : placeWinner (a : Int) (over p (j : Nat)) (c : Int) (m : Nat) = (true, true) := by
      unfold placeWinner
      rw [if_pos (by unfold placeOk; simp; omega)]
      simp [all]
    refine Ev.step (fun k => by rw [laws_FnPlacesAndLasts.l1]) ?_
    rw [w64 (x := (a : Int) - 1) (by omega) (by omega), e0, w64 (x := (j : Int) + 1) (by omega) (by omega)]
    have e1 : (j : Int) + 1 = ((j + 1 : Nat) : Int) := by omega
    have tail := ih (j + 1) (by omega)
    refine Ev.yes (by omega) ?_
    by_cases x1 : p = (j : Int)
    · have : over p (j : Nat) = (j : Int) + 1 := by unfold over; rw [if_pos x1]
      rw [this] at win
      refine Ev.yes x1 (Ev.bind (Ev.eq (implPlaceWinner_ev _ _ _ _) win) (Ev.yes rfl (Ev.yes rfl ?_)))
      rw [e1]; exact tail
    · refine Ev.no x1 ?_
      by_cases x2 : p = (j : Int) + 1
      · have : over p (j : Nat) = (j : Int) := by unfold over; rw [if_neg x1, if_pos x2]
        rw [this] at win
        refine Ev.yes x2 (Ev.bind (Ev.eq (implPlaceWinner_ev _ _ _ _) win) (Ev.yes rfl (Ev.yes rfl ?_)))
        rw [e1]; exact tail
      · have : over p (j : Nat) = p := by unfold over; rw [if_neg x1, if_neg x2]
        rw [this] at win
        refine Ev.no x2 (Ev.bind (Ev.eq (implPlaceWinner_ev _ _ _ _) win) (Ev.yes rfl (Ev.yes rfl ?_)))
        rw [e1]; exact tail
theorem place_l0 {l1 : List Int} (h : bytesOk l1) (a b c d : Nat) (h1 : 2 ≤ a) (h2 : a ≤ 8) (h3 : b < a) (h4 : c < a) (hd2 : 2 ≤ d) (h5 : d ≤ 8) (goods : List Int) (hg : goods.length ≤ 1000) (good : ∀ g ∈ goods, ∃ r : Nat, g = r ∧ r + 1 < a ∧ pl a c (d - 1) false (over b r) = true) :
    ∀ q i : Nat, i + q = goods.length → Ev (fun k => laws_FnPlacesAndLasts.l0 k l1 (a : Int) (b : Int) (c : Int) (d : Int) goods (goods.length : Int) (i : Int)) true := by
  intro q
  induction q with
  | zero =>
    intro i hi
    refine Ev.step (fun k => by rw [laws_FnPlacesAndLasts.l0]) ?_
    exact Ev.no (by omega) (last_j5 h)
  | succ q ih =>
    intro i hi
    have hi' : i < goods.length := by omega
    obtain ⟨r, e, hr, hpl⟩ := good _ (List.getElem_mem hi')
    have ob := over_bound (n := a) (x := (b : Nat)) (r := (r : Nat)) (by omega) (by omega) (by omega) (by omega)
    have tail : Ev (fun k => laws_FnPlacesAndLasts.j3 k l1 (a : Int) (b : Int) (c : Int) (d : Int) (over b (r : Nat)) goods (goods.length : Int) (i : Int)) true := by
      refine Ev.step (fun k => by rw [laws_FnPlacesAndLasts.j3]) ?_
      have := place_l1 l1 a c d goods (i : Int) h1 h2 h4 hd2 h5 b (over b (r : Nat)) ob.1 ob.2 hpl (by rw [w64i hi' (by omega)]; exact ih (i + 1) (by omega)) (a - 1) 0 (by omega)
      simpa using this
    refine Ev.step (fun k => by rw [laws_FnPlacesAndLasts.l0]) ?_
    rw [rd_nat hi', e, w64 (x := (r : Int) + 1) (by omega) (by omega)]
    refine Ev.yes (by omega) (Ev.yes (by omega) (Ev.yes (by omega) ?_))
    by_cases x1 : (b : Int) = (r : Int)
    · have : over (b : Nat) (r : Nat) = (r : Int) + 1 := by unfold over; rw [if_pos x1]
      rw [this] at tail
      exact Ev.yes x1 tail
    · refine Ev.no x1 ?_
      by_cases x2 : (b : Int) = (r : Int) + 1
      · have : over (b : Nat) (r : Nat) = (r : Int) := by unfold over; rw [if_neg x1, if_pos x2]
        rw [this] at tail
        exact Ev.yes x2 tail
      · have : over (b : Nat) (r : Nat) = (b : Int) := by unfold over; rw [if_neg x1, if_neg x2]
        rw [this] at tail
        exact Ev.no x2 tail
theorem place_j1 {l1 : List Int} (h : bytesOk l1) (a b c d : Nat) (h1 : 2 ≤ a) (h2 : a ≤ 8) (h3 : b < a) (h4 : c < a) (h5 : d ≤ 8) : Ev (fun k => laws_FnPlacesAndLasts.j1 k l1 (a : Int) (b : Int) (c : Int) (d : Int) (goodPlaces a b c d) false) true := by
  refine Ev.step (fun k => by rw [laws_FnPlacesAndLasts.j1]) ?_
  refine Ev.no (by simp) ?_
  by_cases hd : (d : Int) ≥ 2
  · refine Ev.yes hd ?_
    have hl := goodPlaces_len (a : Int) b c d
    have := place_l0 h a b c d h1 h2 h3 h4 (by omega) h5 (goodPlaces a b c d) (by omega) (fun g hg => good_mem hg) (goodPlaces a b c d).length 0 (by omega)
    simpa using this
  · exact Ev.no hd (last_j5 h)
theorem place_j0 {l1 : List Int} (h : bytesOk l1) (a b c d : Nat) (h1 : 2 ≤ a) (h2 : a ≤ 8) (h3 : b < a) (h4 : c < a) (h5 : d ≤ 8) :
    Ev (fun k => laws_FnPlacesAndLasts.j0 k l1 (a : Int) (b : Int) (c : Int) (d : Int) (pl a c d true b) true (goodPlaces a b c d) false) true := by
  refine Ev.step (fun k => by rw [laws_FnPlacesAndLasts.j0]) ?_
  refine Ev.no (by simp) (Ev.yes rfl ?_)
  by_cases hd : (d : Int) = 0
  · obtain rfl : d = 0 := by omega
    have hg : goodPlaces (a : Int) (b : Int) (c : Int) ((0 : Nat) : Int) = [] := by simp [goodPlaces]
    have fin := place_j1 h a b c 0 h1 h2 h3 h4 h5
    refine Ev.yes hd (Ev.no (by simp [pl]) (Ev.yes (by rw [hg]; rfl) (Ev.no (by omega) fin)))
  · refine Ev.no hd (Ev.yes (by omega) ?_)
    rw [good_pos a b c d (by omega)]
    simpa using place_j1 h a b c d h1 h2 h3 h4 h5
theorem place_ev (l0 l1 : List Int) (h0 : ∀ x ∈ l0, (Lit.int .u8 x).wf = true) (h1 : ∀ x ∈ l1, (Lit.int .u8 x).wf = true) : Ev (fun k => laws_FnPlacesAndLasts.f k l0 l1) true := by
  unfold laws_FnPlacesAndLasts.f
  have big : laws_big.f l0 l1 = some (decide (1048576 < l0.length + l1.length)) := by
    unfold laws_big.f
    by_cases c : (l0.length : Int) > 1048576
    · rw [if_pos c]; congr 1; symm; simp; omega
    · rw [if_neg c, w64 (by omega) (by omega)]; congr 1; simp only [decide_eq_decide]; omega
  refine Ev.known big ?_
  by_cases hb : 1048576 < l0.length + l1.length
  · exact Ev.yes (by simpa using hb) (Ev.ret rfl)
  · refine Ev.no (by simpa using hb) ?_
    have b0 : bytesOk l0 := ⟨h0, by omega⟩
    have b1 : bytesOk l1 := ⟨h1, by omega⟩
    obtain ⟨n, x, goal, moves, e⟩ := drawPlace_ok b0
    refine Ev.known e (Ev.bind (implPlaceWinner_ev n x goal moves) (Ev.bind (specPlaceWinner_ev n x goal moves) (Ev.bind (implGood_ev n x goal moves) (Ev.bind (specGood_ev n x goal moves) (Ev.bind (implWon_ev n goal moves) (Ev.bind (specWon_ev n goal moves) ?_))))))
    by_cases ok : placeOk n x goal moves = true
    · have ok0 : placeOk n 0 goal moves = true := by simp [placeOk] at ok ⊢; omega
      have e1 : placeWinner n x goal moves = (pl n.toNat goal moves.toNat true x, true) := if_pos ok
      have e2 : goodIf n x goal moves = (goodPlaces n x goal moves, true) := if_pos ok
      have e3 : wonIf n goal moves = (placesWon n goal moves, true) := if_pos ok0
      rw [e1, e2, e3]
      obtain ⟨a, b, c, d, rfl, rfl, rfl, rfl, g1, g2, g3, g4, g5⟩ := placeOk_nat ok
      have l1 := goodPlaces_len (a : Int) b c d
      have l2 := placesWon_len (a : Int) c d
      refine Ev.no (by simp) (Ev.no (by simp) (Ev.no (by simp) (Ev.bind (nSame_ev (goodPlaces (a : Int) b c d) (by omega)) (Ev.yes rfl (Ev.no (by simp) (Ev.bind (nSame_ev (placesWon (a : Int) c d) (by omega)) (Ev.yes rfl (Ev.no (by simp) (Ev.yes rfl (Ev.yes rfl (Ev.bind (nHas_ev (placesWon (a : Int) c d) _ (by omega)) ?_)))))))))))
      rw [won_mem a b c d g3]
      simpa using place_j0 b1 a b c d g1 g2 g3 g4 g5
    · have e1 : placeWinner n x goal moves = (false, false) := if_neg ok
      have e2 : goodIf n x goal moves = ([], false) := if_neg ok
      rw [e1, e2]
      have l2 : (wonIf n goal moves).1.length ≤ 1000 := by
        unfold wonIf
        split
        · rename_i z
          have := placesWon_len n goal moves
          simp [placeOk] at z
          show (placesWon n goal moves).length ≤ 1000
          omega
        · simp
      refine Ev.no (by simp) (Ev.no (by simp) (Ev.no (by simp) (Ev.bind (nSame_ev [] (by simp)) (Ev.yes rfl (Ev.no (by simp) (Ev.bind (nSame_ev _ l2) (Ev.yes rfl (Ev.no (by simp) (Ev.no (by simp) ?_)))))))))
      refine Ev.step (fun k => by rw [laws_FnPlacesAndLasts.j0]) ?_
      exact Ev.no (by simp) (Ev.no (by simp) (last_j5 b1))
theorem placesPure : laws_FnPlacesAndLasts.Pure := by
  intro l0 l1 _ _ h0 _ _ h1
  have E := place_ev l0 l1 h0 h1
  exact Ev.rounds E
end Go.Proofs.Ytlmlamkbedfmhaa.P
end
section
namespace Go.Proofs.Ytlmlamkbedfmhaa.Pure
theorem FnPlacesAndLasts : Go.Proofs.Ytlmlamkbedfmhaa.P.laws_FnPlacesAndLasts.Pure := Go.Proofs.Ytlmlamkbedfmhaa.P.placesPure
end Go.Proofs.Ytlmlamkbedfmhaa.Pure
end
