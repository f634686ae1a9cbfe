-- Printed by wip/gen.py (a program of this session's, over the kit's print program). Lean checks it.
import Derived.Test.YtlmlamkbedfmhaaFKinds
import Derived.Test.YtlmlamkbedfmhaaHWords
import Derived.Test.YtlmlamkbedfmhaaF10
import Derived.Test.YtlmlamkbedfmhaaF11
import Derived.Test.YtlmlamkbedfmhaaF12
import Derived.Test.YtlmlamkbedfmhaaF13
import Derived.Test.YtlmlamkbedfmhaaF14
import Derived.Test.YtlmlamkbedfmhaaF15
import Derived.Test.YtlmlamkbedfmhaaF16
namespace Go.Proofs.Ytlmlamkbedfmhaa.P
open Go.RowKit Go.Proofs.YtlmlamkbedfmhaaW.PrintWords Go.Proofs.YtlmlamkbedfmhaaW.PrintLast Go.Proofs.YtlmlamkbedfmhaaW.PrintMore
attribute [local go_sem] max2_int min2_int max_two min_two max_three min_three max_four min_four   -- for this text's walks alone
set_option linter.unusedVariables false
set_option linter.unusedSimpArgs false

/-! ### laws_FnExactBesideLadders: function 3 -/
mutual
def laws_FnExactBesideLadders.j0 : Nat → Bool → Bool → Bool → Int → List Int → Int → List Int → Int → List Int → Int → List Int → Int → List Int → Int → List Int → Option (Bool)
  | 0, _, _, _, _, _, _, _, _, _, _, _, _, _, _, _ => none
  | k + 1, x7, x11, x53, x180000, x180001, x181000, x181001, x197000, x197001, x202000, x202001, x207000, x207001, x213000, x213001 => if x53 = true then (some false) else ((laws_toLadder.f k x180000 x180001).bind fun bt214 => ((laws_eqLadder.f k x202000 x202001 bt214.1 bt214.2).bind fun t218 => (if t218 = true then ((laws_toLadder.f k x181000 x181001).bind fun bt219 => ((laws_eqLadder.f k x207000 x207001 bt219.1 bt219.2).bind fun t223 => (if t223 = true then ((laws_markLadder.f k x202000 x202001 1).bind fun bt224 => ((laws_markLadder.f k x207000 x207001 bt224.1).bind fun bt226 => (if bt226.1 < 0 then (laws_FnExactBesideLadders.j1 k x7 true x180000 x180001 x181000 x181001 x197000 x197001 x213000 x213001) else ((laws_eqLadder.f k x213000 x213001 x197000 x197001).bind fun t228 => (if t228 = true then (laws_FnExactBesideLadders.j1 k x7 (x11 != x7) x180000 x180001 x181000 x181001 x197000 x197001 x213000 x213001) else (laws_FnExactBesideLadders.j1 k x7 true x180000 x180001 x181000 x181001 x197000 x197001 x213000 x213001)))))) else (some false)))) else (some false))))
def laws_FnExactBesideLadders.j1 : Nat → Bool → Bool → Int → List Int → Int → List Int → Int → List Int → Int → List Int → Option (Bool)
  | 0, _, _, _, _, _, _, _, _, _, _ => none
  | k + 1, x7, x82, x180000, x180001, x181000, x181001, x197000, x197001, x213000, x213001 => if x82 = true then (some false) else ((laws_markLadder.f k x213000 x213001 1).bind fun bt229 => ((laws_heldLadder.f k x213000 bt229.2 1).bind fun t231 => (if t231 < 0 then (some false) else (if t231 = bt229.1 then ((laws_toLadder.f k x180000 x180001).bind fun bt232 => ((laws_toLadder.f k x181000 x181001).bind fun bt236 => ((impl_BesideLadders.f k bt232.1 bt232.2 bt236.1 bt236.2).bind fun bt240 => ((laws_eqLadder.f k bt240.1 bt240.2.1 x197000 x197001).bind fun t246 => (if t246 = true then (laws_FnExactBesideLadders.j2 k bt229.1 (bt240.2.2 != x7) x213000 bt229.2) else (laws_FnExactBesideLadders.j2 k bt229.1 true x213000 bt229.2)))))) else (some false)))))
def laws_FnExactBesideLadders.j2 : Nat → Int → Bool → Int → List Int → Option (Bool)
  | 0, _, _, _, _ => none
  | k + 1, x13, x110, x213000, x213001 => if x110 = true then (some false) else ((laws_heldLadder.f k x213000 x213001 1).bind fun t247 => (if t247 < 0 then (some false) else (if t247 = x13 then (some true) else (some false))))
end
def laws_FnExactBesideLadders.f (k : Nat) (a0_0 : Int) (l0_1 : List Int) (a1_0 : Int) (l1_1 : List Int) : Option (Bool) := (laws_szLadder.f a0_0 l0_1 1048576).bind fun t181 => (if t181 < 0 then (some true) else ((laws_szLadder.f a1_0 l1_1 t181).bind fun t182 => (if t182 < 0 then (some true) else ((laws_toLadder.f k a0_0 l0_1).bind fun bt183 => ((laws_toLadder.f k a1_0 l1_1).bind fun bt187 => ((spec_BesideLadders.f k bt183.1 bt183.2 bt187.1 bt187.2).bind fun bt191 => ((laws_toLadder.f k a0_0 l0_1).bind fun bt197 => ((laws_toLadder.f k a1_0 l1_1).bind fun bt202 => ((impl_BesideLadders.f k bt197.1 bt197.2 bt202.1 bt202.2).bind fun bt207 => ((laws_eqLadder.f k bt207.1 bt207.2.1 bt191.1 bt191.2.1).bind fun t213 => (if t213 = true then (laws_FnExactBesideLadders.j0 k bt191.2.2 bt207.2.2 (bt207.2.2 != bt191.2.2) a0_0 l0_1 a1_0 l1_1 bt191.1 bt191.2.1 bt197.1 bt197.2 bt202.1 bt202.2 bt207.1 bt207.2.1) else (laws_FnExactBesideLadders.j0 k bt191.2.2 bt207.2.2 true a0_0 l0_1 a1_0 l1_1 bt191.1 bt191.2.1 bt197.1 bt197.2 bt202.1 bt202.2 bt207.1 bt207.2.1))))))))))))
theorem laws_FnExactBesideLadders.mono_l : ∀ k, (∀ y0 y1 y2 y3 y4 y5 y6 y7 y8 y9 y10 y11 y12 y13 y14, LeO (laws_FnExactBesideLadders.j0 k y0 y1 y2 y3 y4 y5 y6 y7 y8 y9 y10 y11 y12 y13 y14) (laws_FnExactBesideLadders.j0 (k + 1) y0 y1 y2 y3 y4 y5 y6 y7 y8 y9 y10 y11 y12 y13 y14)) ∧ (∀ y0 y1 y2 y3 y4 y5 y6 y7 y8 y9, LeO (laws_FnExactBesideLadders.j1 k y0 y1 y2 y3 y4 y5 y6 y7 y8 y9) (laws_FnExactBesideLadders.j1 (k + 1) y0 y1 y2 y3 y4 y5 y6 y7 y8 y9)) ∧ (∀ y0 y1 y2 y3, LeO (laws_FnExactBesideLadders.j2 k y0 y1 y2 y3) (laws_FnExactBesideLadders.j2 (k + 1) y0 y1 y2 y3))
  | 0 => ⟨fun _ _ _ _ _ _ _ _ _ _ _ _ _ _ _ r h => by simp [laws_FnExactBesideLadders.j0] at h, fun _ _ _ _ _ _ _ _ _ _ r h => by simp [laws_FnExactBesideLadders.j1] at h, fun _ _ _ _ r h => by simp [laws_FnExactBesideLadders.j2] at h⟩
  | k + 1 => by
    obtain ⟨ih0, ih1, ih2⟩ := laws_FnExactBesideLadders.mono_l k
    refine ⟨?_, ?_, ?_⟩
    · intro y0 y1 y2 y3 y4 y5 y6 y7 y8 y9 y10 y11 y12 y13 y14
      unfold laws_FnExactBesideLadders.j0
      repeat' first
      | (with_reducible exact ih0 _ _ _ _ _ _ _ _ _ _ _ _ _ _ _)
      | (with_reducible exact ih1 _ _ _ _ _ _ _ _ _ _)
      | (with_reducible exact ih2 _ _ _ _)
      | (with_reducible exact impl_BesideLadders.mono _ _ _ _ _)
      | (with_reducible exact laws_eqLadder.mono _ _ _ _ _)
      | (with_reducible exact laws_heldLadder.mono _ _ _ _)
      | (with_reducible exact laws_markLadder.mono _ _ _ _)
      | (with_reducible exact laws_toLadder.mono _ _ _)
      | (with_reducible exact spec_BesideLadders.mono _ _ _ _ _)
      | (with_reducible exact LeO.refl _)
      | (with_reducible exact LeO.none _)
      | (with_reducible refine LeO.ite ?_ ?_)
      | (with_reducible refine LeO.bind ?_ (fun _ => ?_))
      | exact ih0 _ _ _ _ _ _ _ _ _ _ _ _ _ _ _
      | exact ih1 _ _ _ _ _ _ _ _ _ _
      | exact ih2 _ _ _ _
      | exact impl_BesideLadders.mono _ _ _ _ _
      | exact laws_eqLadder.mono _ _ _ _ _
      | exact laws_heldLadder.mono _ _ _ _
      | exact laws_markLadder.mono _ _ _ _
      | exact laws_toLadder.mono _ _ _
      | exact spec_BesideLadders.mono _ _ _ _ _
      | exact LeO.none _
      | refine LeO.ite ?_ ?_
      | refine LeO.bind ?_ (fun _ => ?_)
    · intro y0 y1 y2 y3 y4 y5 y6 y7 y8 y9
      unfold laws_FnExactBesideLadders.j1
      repeat' first
      | (with_reducible exact ih0 _ _ _ _ _ _ _ _ _ _ _ _ _ _ _)
      | (with_reducible exact ih1 _ _ _ _ _ _ _ _ _ _)
      | (with_reducible exact ih2 _ _ _ _)
      | (with_reducible exact impl_BesideLadders.mono _ _ _ _ _)
      | (with_reducible exact laws_eqLadder.mono _ _ _ _ _)
      | (with_reducible exact laws_heldLadder.mono _ _ _ _)
      | (with_reducible exact laws_markLadder.mono _ _ _ _)
      | (with_reducible exact laws_toLadder.mono _ _ _)
      | (with_reducible exact spec_BesideLadders.mono _ _ _ _ _)
      | (with_reducible exact LeO.refl _)
      | (with_reducible exact LeO.none _)
      | (with_reducible refine LeO.ite ?_ ?_)
      | (with_reducible refine LeO.bind ?_ (fun _ => ?_))
      | exact ih0 _ _ _ _ _ _ _ _ _ _ _ _ _ _ _
      | exact ih1 _ _ _ _ _ _ _ _ _ _
      | exact ih2 _ _ _ _
      | exact impl_BesideLadders.mono _ _ _ _ _
      | exact laws_eqLadder.mono _ _ _ _ _
      | exact laws_heldLadder.mono _ _ _ _
      | exact laws_markLadder.mono _ _ _ _
      | exact laws_toLadder.mono _ _ _
      | exact spec_BesideLadders.mono _ _ _ _ _
      | exact LeO.none _
      | refine LeO.ite ?_ ?_
      | refine LeO.bind ?_ (fun _ => ?_)
    · intro y0 y1 y2 y3
      unfold laws_FnExactBesideLadders.j2
      repeat' first
      | (with_reducible exact ih0 _ _ _ _ _ _ _ _ _ _ _ _ _ _ _)
      | (with_reducible exact ih1 _ _ _ _ _ _ _ _ _ _)
      | (with_reducible exact ih2 _ _ _ _)
      | (with_reducible exact impl_BesideLadders.mono _ _ _ _ _)
      | (with_reducible exact laws_eqLadder.mono _ _ _ _ _)
      | (with_reducible exact laws_heldLadder.mono _ _ _ _)
      | (with_reducible exact laws_markLadder.mono _ _ _ _)
      | (with_reducible exact laws_toLadder.mono _ _ _)
      | (with_reducible exact spec_BesideLadders.mono _ _ _ _ _)
      | (with_reducible exact LeO.refl _)
      | (with_reducible exact LeO.none _)
      | (with_reducible refine LeO.ite ?_ ?_)
      | (with_reducible refine LeO.bind ?_ (fun _ => ?_))
      | exact ih0 _ _ _ _ _ _ _ _ _ _ _ _ _ _ _
      | exact ih1 _ _ _ _ _ _ _ _ _ _
      | exact ih2 _ _ _ _
      | exact impl_BesideLadders.mono _ _ _ _ _
      | exact laws_eqLadder.mono _ _ _ _ _
      | exact laws_heldLadder.mono _ _ _ _
      | exact laws_markLadder.mono _ _ _ _
      | exact laws_toLadder.mono _ _ _
      | exact spec_BesideLadders.mono _ _ _ _ _
      | exact LeO.none _
      | refine LeO.ite ?_ ?_
      | refine LeO.bind ?_ (fun _ => ?_)
theorem laws_FnExactBesideLadders.mono : ∀ a0 a1 a2 a3 k, LeO (laws_FnExactBesideLadders.f k a0 a1 a2 a3) (laws_FnExactBesideLadders.f (k + 1) a0 a1 a2 a3) := by
  intro a0 a1 a2 a3 k
  obtain ⟨ih0, ih1, ih2⟩ := laws_FnExactBesideLadders.mono_l k
  unfold laws_FnExactBesideLadders.f
  repeat' first
      | (with_reducible exact ih0 _ _ _ _ _ _ _ _ _ _ _ _ _ _ _)
      | (with_reducible exact ih1 _ _ _ _ _ _ _ _ _ _)
      | (with_reducible exact ih2 _ _ _ _)
      | (with_reducible exact impl_BesideLadders.mono _ _ _ _ _)
      | (with_reducible exact laws_eqLadder.mono _ _ _ _ _)
      | (with_reducible exact laws_heldLadder.mono _ _ _ _)
      | (with_reducible exact laws_markLadder.mono _ _ _ _)
      | (with_reducible exact laws_toLadder.mono _ _ _)
      | (with_reducible exact spec_BesideLadders.mono _ _ _ _ _)
      | (with_reducible exact LeO.refl _)
      | (with_reducible exact LeO.none _)
      | (with_reducible refine LeO.ite ?_ ?_)
      | (with_reducible refine LeO.bind ?_ (fun _ => ?_))
      | exact ih0 _ _ _ _ _ _ _ _ _ _ _ _ _ _ _
      | exact ih1 _ _ _ _ _ _ _ _ _ _
      | exact ih2 _ _ _ _
      | exact impl_BesideLadders.mono _ _ _ _ _
      | exact laws_eqLadder.mono _ _ _ _ _
      | exact laws_heldLadder.mono _ _ _ _
      | exact laws_markLadder.mono _ _ _ _
      | exact laws_toLadder.mono _ _ _
      | exact spec_BesideLadders.mono _ _ _ _ _
      | exact LeO.none _
      | refine LeO.ite ?_ ?_
      | refine LeO.bind ?_ (fun _ => ?_)
def laws_FnExactBesideLadders.T8 : Bool × List (List Nat × List Nat) := (true, [([], []), ([0], [0]), ([], []), ([2, 1], [2]), ([1, 3, 3], [1, 3]), ([4], [4]), ([5], [5]), ([5], [5]), ([], []), ([8, 6, 4, 0, 1, 2, 3, 4, 5, 6, 8], [6, 8]), ([7, 9, 0, 1, 2, 3, 4, 5, 6, 7, 8, 9], [7])])
def laws_FnExactBesideLadders.B8 : List Nat := [0, 1, 0, 7, 15, 31, 63, 63, 0, 383, 1023]
theorem laws_FnExactBesideLadders.tab8 : rtab .any (opsOf Try.f3 8) = laws_FnExactBesideLadders.T8 := by kernel_rfl
theorem laws_FnExactBesideLadders.bits8 : waitsOk laws_FnExactBesideLadders.T8.2 laws_FnExactBesideLadders.B8 = true := by kernel_rfl
def laws_FnExactBesideLadders.T31 : Bool × List (List Nat × List Nat) := (true, [([], []), ([0], [0]), ([], []), ([2, 1], [2]), ([1, 3, 3], [1, 3]), ([4], [4]), ([5], [5]), ([5], [5]), ([], []), ([8, 6, 4, 0, 1, 2, 3, 4, 5, 6, 8], [6, 8]), ([7, 9, 0, 1, 2, 3, 4, 5, 6, 7, 8, 9], [7])])
def laws_FnExactBesideLadders.B31 : List Nat := [0, 1, 0, 7, 15, 31, 63, 63, 0, 383, 1023]
theorem laws_FnExactBesideLadders.tab31 : rtab .any (opsOf Try.f3 31) = laws_FnExactBesideLadders.T31 := by kernel_rfl
theorem laws_FnExactBesideLadders.bits31 : waitsOk laws_FnExactBesideLadders.T31.2 laws_FnExactBesideLadders.B31 = true := by kernel_rfl
set_option maxHeartbeats 8000000 in
set_option maxRecDepth 100000 in
theorem laws_FnExactBesideLadders.calls (k : Nat) (a0_0 : Int) (A0_1 : Option Addr) (c0_1 : Nat) (l0_1 : List Int) (a1_0 : Int) (A1_1 : Option Addr) (c1_1 : Nat) (l1_1 : List Int) (r : Bool) (w : World) (hr0_1 : Kd.C (Kd.int .i64) w A0_1 l0_1.length l0_1) (hc0_1 : l0_1.length ≤ c0_1) (hr1_1 : Kd.C (Kd.int .i64) w A1_1 l1_1.length l1_1) (hc1_1 : l1_1.length ≤ c1_1) (h : laws_FnExactBesideLadders.f k a0_0 l0_1 a1_0 l1_1 = some r) :
    Calls Try.prog 3 #[.agg #[.int .i64 a0_0, .slice A0_1 l0_1.length c0_1], .agg #[.int .i64 a1_0, .slice A1_1 l1_1.length c1_1]] w fun e w' => e = .returned (.bool r) ∧ Below w.heap.size w w' := by
  have hu24 := Try.underlying24
  have hu26 := Try.underlying26
  have HR0_1 := Aside0.mk hr0_1
  have HC0_1 := Aside0.mk hc0_1
  clear hr0_1 hc0_1
  have HR1_1 := Aside0.mk hr1_1
  have HC1_1 := Aside0.mk hc1_1
  clear hr1_1 hc1_1
  have HB := Aside0.mk (Below.refl w.heap.size w)
  have H : ((laws_szLadder.f a0_0 l0_1 1048576).bind fun t181 => (if t181 < 0 then (some true) else ((laws_szLadder.f a1_0 l1_1 t181).bind fun t182 => (if t182 < 0 then (some true) else ((laws_toLadder.f k a0_0 l0_1).bind fun bt183 => ((laws_toLadder.f k a1_0 l1_1).bind fun bt187 => ((spec_BesideLadders.f k bt183.1 bt183.2 bt187.1 bt187.2).bind fun bt191 => ((laws_toLadder.f k a0_0 l0_1).bind fun bt197 => ((laws_toLadder.f k a1_0 l1_1).bind fun bt202 => ((impl_BesideLadders.f k bt197.1 bt197.2 bt202.1 bt202.2).bind fun bt207 => ((laws_eqLadder.f k bt207.1 bt207.2.1 bt191.1 bt191.2.1).bind fun t213 => (if t213 = true then (laws_FnExactBesideLadders.j0 k bt191.2.2 bt207.2.2 (bt207.2.2 != bt191.2.2) a0_0 l0_1 a1_0 l1_1 bt191.1 bt191.2.1 bt197.1 bt197.2 bt202.1 bt202.2 bt207.1 bt207.2.1) else (laws_FnExactBesideLadders.j0 k bt191.2.2 bt207.2.2 true a0_0 l0_1 a1_0 l1_1 bt191.1 bt191.2.1 bt197.1 bt197.2 bt202.1 bt202.2 bt207.1 bt207.2.1))))))))))))) = some r := h
  clear h
  replace H := Option.bind_eq_some_iff.mp H
  obtain ⟨t181, A30, H⟩ := H
  replace H : (if t181 < 0 then (some true) else ((laws_szLadder.f a1_0 l1_1 t181).bind fun t182 => (if t182 < 0 then (some true) else ((laws_toLadder.f k a0_0 l0_1).bind fun bt183 => ((laws_toLadder.f k a1_0 l1_1).bind fun bt187 => ((spec_BesideLadders.f k bt183.1 bt183.2 bt187.1 bt187.2).bind fun bt191 => ((laws_toLadder.f k a0_0 l0_1).bind fun bt197 => ((laws_toLadder.f k a1_0 l1_1).bind fun bt202 => ((impl_BesideLadders.f k bt197.1 bt197.2 bt202.1 bt202.2).bind fun bt207 => ((laws_eqLadder.f k bt207.1 bt207.2.1 bt191.1 bt191.2.1).bind fun t213 => (if t213 = true then (laws_FnExactBesideLadders.j0 k bt191.2.2 bt207.2.2 (bt207.2.2 != bt191.2.2) a0_0 l0_1 a1_0 l1_1 bt191.1 bt191.2.1 bt197.1 bt197.2 bt202.1 bt202.2 bt207.1 bt207.2.1) else (laws_FnExactBesideLadders.j0 k bt191.2.2 bt207.2.2 true a0_0 l0_1 a1_0 l1_1 bt191.1 bt191.2.1 bt197.1 bt197.2 bt202.1 bt202.2 bt207.1 bt207.2.1)))))))))))) = some r := H
  have A3 := Aside0.mk A30
  clear A30
  by_cases c4 : t181 < 0
  · rw [if_pos c4] at H
    have c4b0 : decide (t181 < 0) = true := decide_eq_true c4
    clear c4
    obtain rfl := Option.some.inj H
    go_enter Try.func3, Try.ntmps3
    go_wp2_with (first | ((with_reducible refine gate_dst (N := 2) rfl ?_); refine bx 2 #[.int .i64 a0_0, .slice A0_1 l0_1.length c0_1] 24 ?_; intro gb179 hg w5 hbox hb; have BK179 := Aside0.mk (hbox); have GW179 := gE hg HB; have GE179 := gE hg HB; replace HB := uD HB hb; clear hb hbox hg) | ((with_reducible refine gate_dst (N := 3) rfl ?_); refine bx 3 #[.int .i64 a1_0, .slice A1_1 l1_1.length c1_1] 24 ?_; intro gb180 hg w6 hbox hb; have BK180 := Aside0.mk (hbox); have GW180 := gE hg HB; have GE180 := gE hg HB; replace HB := uD HB hb; have NB179_180 := nB hg BK179; have NB180_179 := nC hg BK179; replace BK179 := uB BK179 hb; clear hb hbox hg; have hnb7 := NB179_180.out; have hnc7 := NB180_179.out; have hcz8_0 := cl BK179 0; have hcz8_1 := cl BK179 1; have hfz8_0 := blk_frozen BK179.out 0; have hfz8_1 := blk_frozen BK179.out 1) | ((with_reducible refine gate_callee (f := 10) rfl ?_); refine gs (some 19) Try.func10 #[.agg #[.int .i64 a0_0, .slice A0_1 l0_1.length c0_1], .int .i64 1048576] ?_; (with_reducible refine (laws_szLadder.calls a0_0 _ _ l0_1 1048576 t181 _ ?side1 ?side2 A3.out).mono ?_); (case side1 => exact qC (Kd.C_below HR0_1.out HB.out)); (case side2 => exact HC0_1.out); rintro e w9 ⟨rfl, hb⟩; refine ⟨_, rfl, ?_⟩; replace BK179 := uB BK179 hb; replace BK180 := uB BK180 hb; replace HB := uD HB hb; (try clear hb); (try clear hb2); (try clear hk); (try clear hi)))
    go_ret
    exact ⟨by first | rfl | (simp [errW_none, errW_some] <;> rfl) | (simp [*, errW_none, errW_some] <;> rfl), qD HB⟩
  · rw [if_neg c4] at H
    have c4b0 : decide (t181 < 0) = false := decide_eq_false c4
    clear c4
    replace H := Option.bind_eq_some_iff.mp H
    obtain ⟨t182, A100, H⟩ := H
    replace H : (if t182 < 0 then (some true) else ((laws_toLadder.f k a0_0 l0_1).bind fun bt183 => ((laws_toLadder.f k a1_0 l1_1).bind fun bt187 => ((spec_BesideLadders.f k bt183.1 bt183.2 bt187.1 bt187.2).bind fun bt191 => ((laws_toLadder.f k a0_0 l0_1).bind fun bt197 => ((laws_toLadder.f k a1_0 l1_1).bind fun bt202 => ((impl_BesideLadders.f k bt197.1 bt197.2 bt202.1 bt202.2).bind fun bt207 => ((laws_eqLadder.f k bt207.1 bt207.2.1 bt191.1 bt191.2.1).bind fun t213 => (if t213 = true then (laws_FnExactBesideLadders.j0 k bt191.2.2 bt207.2.2 (bt207.2.2 != bt191.2.2) a0_0 l0_1 a1_0 l1_1 bt191.1 bt191.2.1 bt197.1 bt197.2 bt202.1 bt202.2 bt207.1 bt207.2.1) else (laws_FnExactBesideLadders.j0 k bt191.2.2 bt207.2.2 true a0_0 l0_1 a1_0 l1_1 bt191.1 bt191.2.1 bt197.1 bt197.2 bt202.1 bt202.2 bt207.1 bt207.2.1)))))))))) = some r := H
    have A10 := Aside0.mk A100
    clear A100
    by_cases c11 : t182 < 0
    · rw [if_pos c11] at H
      have c11b0 : decide (t182 < 0) = true := decide_eq_true c11
      clear c11
      obtain rfl := Option.some.inj H
      go_enter Try.func3, Try.ntmps3
      go_wp2_with (first | ((with_reducible refine gate_dst (N := 2) rfl ?_); refine bx 2 #[.int .i64 a0_0, .slice A0_1 l0_1.length c0_1] 24 ?_; intro gb179 hg w12 hbox hb; have BK179 := Aside0.mk (hbox); have GW179 := gE hg HB; have GE179 := gE hg HB; replace HB := uD HB hb; clear hb hbox hg) | ((with_reducible refine gate_dst (N := 3) rfl ?_); refine bx 3 #[.int .i64 a1_0, .slice A1_1 l1_1.length c1_1] 24 ?_; intro gb180 hg w13 hbox hb; have BK180 := Aside0.mk (hbox); have GW180 := gE hg HB; have GE180 := gE hg HB; replace HB := uD HB hb; have NB179_180 := nB hg BK179; have NB180_179 := nC hg BK179; replace BK179 := uB BK179 hb; clear hb hbox hg; have hnb14 := NB179_180.out; have hnc14 := NB180_179.out; have hcz15_0 := cl BK179 0; have hcz15_1 := cl BK179 1; have hfz15_0 := blk_frozen BK179.out 0; have hfz15_1 := blk_frozen BK179.out 1) | ((with_reducible refine gate_callee (f := 10) rfl ?_); refine gs (some 19) Try.func10 #[.agg #[.int .i64 a0_0, .slice A0_1 l0_1.length c0_1], .int .i64 1048576] ?_; (with_reducible refine (laws_szLadder.calls a0_0 _ _ l0_1 1048576 t181 _ ?side1 ?side2 A3.out).mono ?_); (case side1 => exact qC (Kd.C_below HR0_1.out HB.out)); (case side2 => exact HC0_1.out); rintro e w16 ⟨rfl, hb⟩; refine ⟨_, rfl, ?_⟩; replace BK179 := uB BK179 hb; replace BK180 := uB BK180 hb; replace HB := uD HB hb; (try clear hb); (try clear hb2); (try clear hk); (try clear hi); have hcz17_0 := cl BK180 0; have hcz17_1 := cl BK180 1; have hfz17_0 := blk_frozen BK180.out 0; have hfz17_1 := blk_frozen BK180.out 1) | ((with_reducible refine gate_callee (f := 10) rfl ?_); refine gs (some 24) Try.func10 #[.agg #[.int .i64 a1_0, .slice A1_1 l1_1.length c1_1], .int .i64 t181] ?_; (with_reducible refine (laws_szLadder.calls a1_0 _ _ l1_1 t181 t182 _ ?side1 ?side2 A10.out).mono ?_); (case side1 => exact qC (Kd.C_below HR1_1.out HB.out)); (case side2 => exact HC1_1.out); rintro e w18 ⟨rfl, hb⟩; refine ⟨_, rfl, ?_⟩; replace BK179 := uB BK179 hb; replace BK180 := uB BK180 hb; replace HB := uD HB hb; (try clear hb); (try clear hb2); (try clear hk); (try clear hi)))
      go_ret
      exact ⟨by first | rfl | (simp [errW_none, errW_some] <;> rfl) | (simp [*, errW_none, errW_some] <;> rfl), qD HB⟩
    · rw [if_neg c11] at H
      have c11b0 : decide (t182 < 0) = false := decide_eq_false c11
      clear c11
      replace H := Option.bind_eq_some_iff.mp H
      obtain ⟨⟨t183, t184⟩, A190, H⟩ := H
      replace H : ((laws_toLadder.f k a1_0 l1_1).bind fun bt187 => ((spec_BesideLadders.f k t183 t184 bt187.1 bt187.2).bind fun bt191 => ((laws_toLadder.f k a0_0 l0_1).bind fun bt197 => ((laws_toLadder.f k a1_0 l1_1).bind fun bt202 => ((impl_BesideLadders.f k bt197.1 bt197.2 bt202.1 bt202.2).bind fun bt207 => ((laws_eqLadder.f k bt207.1 bt207.2.1 bt191.1 bt191.2.1).bind fun t213 => (if t213 = true then (laws_FnExactBesideLadders.j0 k bt191.2.2 bt207.2.2 (bt207.2.2 != bt191.2.2) a0_0 l0_1 a1_0 l1_1 bt191.1 bt191.2.1 bt197.1 bt197.2 bt202.1 bt202.2 bt207.1 bt207.2.1) else (laws_FnExactBesideLadders.j0 k bt191.2.2 bt207.2.2 true a0_0 l0_1 a1_0 l1_1 bt191.1 bt191.2.1 bt197.1 bt197.2 bt202.1 bt202.2 bt207.1 bt207.2.1)))))))) = some r := H
      have A19 := Aside0.mk A190
      clear A190
      replace H := Option.bind_eq_some_iff.mp H
      obtain ⟨⟨t187, t188⟩, A200, H⟩ := H
      replace H : ((spec_BesideLadders.f k t183 t184 t187 t188).bind fun bt191 => ((laws_toLadder.f k a0_0 l0_1).bind fun bt197 => ((laws_toLadder.f k a1_0 l1_1).bind fun bt202 => ((impl_BesideLadders.f k bt197.1 bt197.2 bt202.1 bt202.2).bind fun bt207 => ((laws_eqLadder.f k bt207.1 bt207.2.1 bt191.1 bt191.2.1).bind fun t213 => (if t213 = true then (laws_FnExactBesideLadders.j0 k bt191.2.2 bt207.2.2 (bt207.2.2 != bt191.2.2) a0_0 l0_1 a1_0 l1_1 bt191.1 bt191.2.1 bt197.1 bt197.2 bt202.1 bt202.2 bt207.1 bt207.2.1) else (laws_FnExactBesideLadders.j0 k bt191.2.2 bt207.2.2 true a0_0 l0_1 a1_0 l1_1 bt191.1 bt191.2.1 bt197.1 bt197.2 bt202.1 bt202.2 bt207.1 bt207.2.1))))))) = some r := H
      have A20 := Aside0.mk A200
      clear A200
      replace H := Option.bind_eq_some_iff.mp H
      obtain ⟨⟨t191, t192, t195⟩, A210, H⟩ := H
      replace H : ((laws_toLadder.f k a0_0 l0_1).bind fun bt197 => ((laws_toLadder.f k a1_0 l1_1).bind fun bt202 => ((impl_BesideLadders.f k bt197.1 bt197.2 bt202.1 bt202.2).bind fun bt207 => ((laws_eqLadder.f k bt207.1 bt207.2.1 t191 t192).bind fun t213 => (if t213 = true then (laws_FnExactBesideLadders.j0 k t195 bt207.2.2 (bt207.2.2 != t195) a0_0 l0_1 a1_0 l1_1 t191 t192 bt197.1 bt197.2 bt202.1 bt202.2 bt207.1 bt207.2.1) else (laws_FnExactBesideLadders.j0 k t195 bt207.2.2 true a0_0 l0_1 a1_0 l1_1 t191 t192 bt197.1 bt197.2 bt202.1 bt202.2 bt207.1 bt207.2.1)))))) = some r := H
      have A21 := Aside0.mk A210
      clear A210
      replace H := Option.bind_eq_some_iff.mp H
      obtain ⟨⟨t197, t198⟩, A220, H⟩ := H
      replace H : ((laws_toLadder.f k a1_0 l1_1).bind fun bt202 => ((impl_BesideLadders.f k t197 t198 bt202.1 bt202.2).bind fun bt207 => ((laws_eqLadder.f k bt207.1 bt207.2.1 t191 t192).bind fun t213 => (if t213 = true then (laws_FnExactBesideLadders.j0 k t195 bt207.2.2 (bt207.2.2 != t195) a0_0 l0_1 a1_0 l1_1 t191 t192 t197 t198 bt202.1 bt202.2 bt207.1 bt207.2.1) else (laws_FnExactBesideLadders.j0 k t195 bt207.2.2 true a0_0 l0_1 a1_0 l1_1 t191 t192 t197 t198 bt202.1 bt202.2 bt207.1 bt207.2.1))))) = some r := H
      have A22 := Aside0.mk A220
      clear A220
      replace H := Option.bind_eq_some_iff.mp H
      obtain ⟨⟨t202, t203⟩, A230, H⟩ := H
      replace H : ((impl_BesideLadders.f k t197 t198 t202 t203).bind fun bt207 => ((laws_eqLadder.f k bt207.1 bt207.2.1 t191 t192).bind fun t213 => (if t213 = true then (laws_FnExactBesideLadders.j0 k t195 bt207.2.2 (bt207.2.2 != t195) a0_0 l0_1 a1_0 l1_1 t191 t192 t197 t198 t202 t203 bt207.1 bt207.2.1) else (laws_FnExactBesideLadders.j0 k t195 bt207.2.2 true a0_0 l0_1 a1_0 l1_1 t191 t192 t197 t198 t202 t203 bt207.1 bt207.2.1)))) = some r := H
      have A23 := Aside0.mk A230
      clear A230
      replace H := Option.bind_eq_some_iff.mp H
      obtain ⟨⟨t207, t208, t211⟩, A240, H⟩ := H
      replace H : ((laws_eqLadder.f k t207 t208 t191 t192).bind fun t213 => (if t213 = true then (laws_FnExactBesideLadders.j0 k t195 t211 (t211 != t195) a0_0 l0_1 a1_0 l1_1 t191 t192 t197 t198 t202 t203 t207 t208) else (laws_FnExactBesideLadders.j0 k t195 t211 true a0_0 l0_1 a1_0 l1_1 t191 t192 t197 t198 t202 t203 t207 t208))) = some r := H
      have A24 := Aside0.mk A240
      clear A240
      have HC25 := Aside0.mk H
      clear H
      go_enter Try.func3, Try.ntmps3
      try go_wp2_with (first | ((with_reducible refine gate_dst (N := 2) rfl ?_); refine bx 2 #[.int .i64 a0_0, .slice A0_1 l0_1.length c0_1] 24 ?_; intro gb179 hg w26 hbox hb; have BK179 := Aside0.mk (hbox); have GW179 := gE hg HB; have GE179 := gE hg HB; replace HB := uD HB hb; clear hb hbox hg) | ((with_reducible refine gate_dst (N := 3) rfl ?_); refine bx 3 #[.int .i64 a1_0, .slice A1_1 l1_1.length c1_1] 24 ?_; intro gb180 hg w27 hbox hb; have BK180 := Aside0.mk (hbox); have GW180 := gE hg HB; have GE180 := gE hg HB; replace HB := uD HB hb; have NB179_180 := nB hg BK179; have NB180_179 := nC hg BK179; replace BK179 := uB BK179 hb; clear hb hbox hg; have hnb28 := NB179_180.out; have hnc28 := NB180_179.out; have hcz29_0 := cl BK179 0; have hcz29_1 := cl BK179 1; have hfz29_0 := blk_frozen BK179.out 0; have hfz29_1 := blk_frozen BK179.out 1) | ((with_reducible refine gate_callee (f := 10) rfl ?_); refine gs (some 19) Try.func10 #[.agg #[.int .i64 a0_0, .slice A0_1 l0_1.length c0_1], .int .i64 1048576] ?_; (with_reducible refine (laws_szLadder.calls a0_0 _ _ l0_1 1048576 t181 _ ?side1 ?side2 A3.out).mono ?_); (case side1 => exact qC (Kd.C_below HR0_1.out HB.out)); (case side2 => exact HC0_1.out); rintro e w30 ⟨rfl, hb⟩; refine ⟨_, rfl, ?_⟩; replace BK179 := uB BK179 hb; replace BK180 := uB BK180 hb; replace HB := uD HB hb; (try clear hb); (try clear hb2); (try clear hk); (try clear hi); have hcz31_0 := cl BK180 0; have hcz31_1 := cl BK180 1; have hfz31_0 := blk_frozen BK180.out 0; have hfz31_1 := blk_frozen BK180.out 1) | ((with_reducible refine gate_callee (f := 10) rfl ?_); refine gs (some 24) Try.func10 #[.agg #[.int .i64 a1_0, .slice A1_1 l1_1.length c1_1], .int .i64 t181] ?_; (with_reducible refine (laws_szLadder.calls a1_0 _ _ l1_1 t181 t182 _ ?side1 ?side2 A10.out).mono ?_); (case side1 => exact qC (Kd.C_below HR1_1.out HB.out)); (case side2 => exact HC1_1.out); rintro e w32 ⟨rfl, hb⟩; refine ⟨_, rfl, ?_⟩; replace BK179 := uB BK179 hb; replace BK180 := uB BK180 hb; replace HB := uD HB hb; (try clear hb); (try clear hb2); (try clear hk); (try clear hi)))
      replace BK179 := Aside0.mk (blk_drew BK179.out)
      replace BK180 := Aside0.mk (blk_drew BK180.out)
      replace HB := Aside0.mk (below_drew1 HB.out)
      refine start_ (n := 11) (S := fun w' => w'.cell? ⟨gb179, 0, none⟩ = some (.int .i64 a0_0) ∧ w'.cell? ⟨gb179, 1, none⟩ = some (.slice A0_1 l0_1.length c0_1) ∧ w'.cell? ⟨gb180, 0, none⟩ = some (.int .i64 a1_0) ∧ w'.cell? ⟨gb180, 1, none⟩ = some (.slice A1_1 l1_1.length c1_1)) (ds := []) #[false, false, false, false, false, false, false, false, false, false, false] (by kernel_rfl) rfl rfl ⟨cl BK179 0, cl BK179 1, cl BK180 0, cl BK180 1⟩ (fun hHeld => ?_); refine with_tabW laws_FnExactBesideLadders.tab8 laws_FnExactBesideLadders.bits8 (fun HT_ HW_ => ?_)
      generalize w32.drew = w33 at BK179 BK180 HB hHeld ⊢
      refine tk 0 (some 28) #[true, false, false, false, false, false, false, false, false, false, false] HT_ HW_ hHeld ?_
      refine tk 2 (some 30) #[true, false, true, false, false, false, false, false, false, false, false] HT_ HW_ hHeld ?_
      refine join_ (σ := Value × Value × Value × Nat) 2 #[true, true, true, true, true, true, true, true, true, false, false] (fun s_ => [(29, .agg #[.int .i64 t183, s_.1]), (31, .agg #[.int .i64 t187, s_.2.1]), (32, .tuple #[.agg #[.int .i64 t191, s_.2.2.1], .bool t195]), (6, .pointer (some ⟨s_.2.2.2, 0, none⟩)), (27, .tuple #[.agg #[.int .i64 t191, s_.2.2.1], .bool t195]), (33, .agg #[.int .i64 t191, s_.2.2.1]), (34, .bool t195)]) (fun s_ w' => (w'.cell? ⟨gb179, 0, none⟩ = some (.int .i64 a0_0) ∧ w'.cell? ⟨gb179, 1, none⟩ = some (.slice A0_1 l0_1.length c0_1) ∧ w'.cell? ⟨gb180, 0, none⟩ = some (.int .i64 a1_0) ∧ w'.cell? ⟨gb180, 1, none⟩ = some (.slice A1_1 l1_1.length c1_1)) ∧ (Kd.R (Kd.int .i64) 3 w' w.heap.size (fun k_ => some k_ ≠ (s_.2.1 : Value).ownBlock ∧ some k_ ≠ (s_.2.2.1 : Value).ownBlock) s_.1 t184) ∧ (Kd.R (Kd.int .i64) 3 w' w.heap.size (fun k_ => some k_ ≠ (s_.1 : Value).ownBlock ∧ some k_ ≠ (s_.2.2.1 : Value).ownBlock) s_.2.1 t188) ∧ (Kd.R (Kd.int .i64) 3 w' w.heap.size (fun k_ => some k_ ≠ (s_.1 : Value).ownBlock ∧ some k_ ≠ (s_.2.1 : Value).ownBlock) s_.2.2.1 t192) ∧ (w'.heap[gb179]? = some (.cells #[.int .i64 a0_0, .slice A0_1 l0_1.length c0_1] 24 (0, 0))) ∧ (w'.heap[gb180]? = some (.cells #[.int .i64 a1_0, .slice A1_1 l1_1.length c1_1] 24 (0, 0))) ∧ (w'.heap[s_.2.2.2]? = some (.cells #[.int .i64 0, .slice none 0 0] 26 (0, 0))) ∧ (w.heap.size ≤ s_.2.2.2) ∧ (w.heap.size ≤ s_.2.2.2) ∧ (gb179 ≠ s_.2.2.2) ∧ (s_.2.2.2 ≠ gb179) ∧ (gb180 ≠ s_.2.2.2) ∧ (s_.2.2.2 ≠ gb180) ∧ (Below w.heap.size w w')) ?_ ?_
      rotate_left
      · intro hCont
        refine two_ (i := 1) (j := 8) (Ni := some 29) (Nj := some 6) #[true, true, true, false, false, false, false, false, false, false, false] #[true, false, true, false, false, false, false, false, true, false, false] rfl rfl rfl rfl (two_of HT_.out (by kernel_rfl)) (by decide) (by decide) (fun K hK => ?_) (fun K hK => ?_)
        · skip
          refine gt Try.func12 #[.agg #[.int .i64 a0_0, .slice A0_1 l0_1.length c0_1]] ?_
          with_reducible refine (laws_toLadder.calls k a0_0 _ _ l0_1 t183 t184 _ ?side1 ?side2 A19.out).mono ?_
          (case side1 => exact qC (Kd.C_below HR0_1.out HB.out))
          (case side2 => exact HC0_1.out)
          rintro e w34 ⟨v185, rfl, ho0, hb⟩
          refine ⟨_, rfl, ?_⟩
          have HO186 := Aside0.mk (Kd.R_lower ho0 (below_size (qD HB)))
          replace BK179 := uB BK179 hb
          replace BK180 := uB BK180 hb
          replace HB := uD HB hb
          (try clear hb)
          (try clear hb2)
          (try clear hk)
          (try clear hi)
          (try clear ho0)
          refine hK.out _ _ ⟨cl BK179 0, cl BK179 1, cl BK180 0, cl BK180 1⟩ (fun hHeld => ?_)
          clear hK K
          refine nm (some 29) ?_
          refine two_ (i := 3) (j := 8) (Ni := some 31) (Nj := some 6) #[true, true, true, true, false, false, false, false, false, false, false] #[true, true, true, false, false, false, false, false, true, false, false] rfl rfl rfl rfl (two_of HT_.out (by kernel_rfl)) (by decide) (by decide) (fun K hK => ?_) (fun K hK => ?_)
          · skip
            refine gt Try.func12 #[.agg #[.int .i64 a1_0, .slice A1_1 l1_1.length c1_1]] ?_
            with_reducible refine (laws_toLadder.calls k a1_0 _ _ l1_1 t187 t188 _ ?side1 ?side2 A20.out).mono ?_
            (case side1 => exact qC (Kd.C_below HR1_1.out HB.out))
            (case side2 => exact HC1_1.out)
            rintro e w35 ⟨v189, rfl, ho0, hb⟩
            refine ⟨_, rfl, ?_⟩
            have HO190 := Aside0.mk (Kd.R_lower (Kd.R_new' ho0 (Kd.R_lt (qR HO186))) (below_size (qD HB)))
            replace HO186 := eR HO186 ho0 hb
            replace BK179 := uB BK179 hb
            replace BK180 := uB BK180 hb
            replace HB := uD HB hb
            (try clear hb)
            (try clear hb2)
            (try clear hk)
            (try clear hi)
            (try clear ho0)
            obtain ⟨Ao36, co36, eo36⟩ := Kd.R_slice HO186.out
            (first | subst eo36 | (injection eo36 with f1_ f2_ f3_; have f4_ := f1_.symm; have f5_ := f3_.symm; clear f1_ f2_ f3_; subst f4_; subst f5_))
            obtain ⟨Ao37, co37, eo37⟩ := Kd.R_slice HO190.out
            (first | subst eo37 | (injection eo37 with f1_ f2_ f3_; have f4_ := f1_.symm; have f5_ := f3_.symm; clear f1_ f2_ f3_; subst f4_; subst f5_))
            refine hK.out _ _ ⟨cl BK179 0, cl BK179 1, cl BK180 0, cl BK180 1⟩ (fun hHeld => ?_)
            clear hK K
            refine nm (some 31) ?_
            refine two_ (i := 4) (j := 8) (Ni := some 32) (Nj := some 6) #[true, true, true, true, true, false, false, false, false, false, false] #[true, true, true, true, false, false, false, false, true, false, false] rfl rfl rfl rfl (two_of HT_.out (by kernel_rfl)) (by decide) (by decide) (fun K hK => ?_) (fun K hK => ?_)
            · skip
              refine gt Try.func11 #[.agg #[.int .i64 t183, .slice Ao36 t184.length co36], .agg #[.int .i64 t187, .slice Ao37 t188.length co37]] ?_
              with_reducible refine (spec_BesideLadders.calls k t183 _ _ t184 t187 _ _ t188 t191 t192 t195 _ ?side1 ?side2 ?side3 ?side4 A21.out).mono ?_
              (case side1 => exact qC (Kd.R_reads' HO186.out).2.2)
              (case side2 => exact (Kd.R_reads' HO186.out).2.1)
              (case side3 => exact qC (Kd.R_reads' HO190.out).2.2)
              (case side4 => exact (Kd.R_reads' HO190.out).2.1)
              rintro e w38 ⟨v193, rfl, ho0, hb⟩
              refine ⟨_, rfl, ?_⟩
              have HO194 := Aside0.mk (Kd.R_lower (Kd.R_new' (Kd.R_new' ho0 (Kd.R_lt (qR HO186))) (Kd.R_lt (qR HO190))) (below_size (qD HB)))
              replace HO186 := eR HO186 ho0 hb
              replace HO190 := eR HO190 ho0 hb
              replace BK179 := uB BK179 hb
              replace BK180 := uB BK180 hb
              replace HB := uD HB hb
              (try clear hb)
              (try clear hb2)
              (try clear hk)
              (try clear hi)
              (try clear ho0)
              refine hK.out _ _ ⟨cl BK179 0, cl BK179 1, cl BK180 0, cl BK180 1⟩ (fun hHeld => ?_)
              clear hK K
              refine nm (some 32) ?_
              refine pu 5 (some 27) #[true, true, true, true, true, true, false, false, false, false, false] HT_ ?_
              refine pu 6 (some 33) #[true, true, true, true, true, true, true, false, false, false, false] HT_ ?_
              refine pu 7 (some 34) #[true, true, true, true, true, true, true, true, false, false, false] HT_ ?_
              refine one_ (i := 8) (N := some 6) #[true, true, true, true, true, true, true, true, true, false, false] rfl rfl (one_of HT_.out (by kernel_rfl)) (by decide) (fun K hK => ?_)
              refine box_step ?hg (N := 6) ?hd (cs := #[.int .i64 0, .slice none 0 0]) (t := 26) ?hr ?_; (case hd => rfl); (case hg => rfl); (case hr => first | (go_simp; done) | (go_simp; rfl))
              intro gb196 hg w39 hbox hb
              replace HO186 := uR HO186 hb
              replace HO190 := uR HO190 hb
              replace HO194 := uR HO194 hb
              have BK196 := Aside0.mk (hbox)
              have GW196 := gE hg HB
              have GE196 := gE hg HB
              replace HB := uD HB hb
              have NB179_196 := nB hg BK179
              have NB196_179 := nC hg BK179
              replace BK179 := uB BK179 hb
              have NB180_196 := nB hg BK180
              have NB196_180 := nC hg BK180
              replace BK180 := uB BK180 hb
              clear hb hbox hg
              refine hK.out _ _ ⟨cl BK179 0, cl BK179 1, cl BK180 0, cl BK180 1⟩ (fun hHeld => ?_)
              clear hK K
              refine nm (some 6) ?_
              exact norm_ (by simp only [putAll, Act.put, List.setIfInBounds_toArray, List.set_cons_zero, List.set_cons_succ]) (hCont (.slice Ao36 t184.length co36, .slice Ao37 t188.length co37, v193, gb196) _ ⟨hHeld, (mR HO186 (fun _ hk => ⟨hk.1.2, hk.2⟩)), (mR HO190 (fun _ hk => ⟨hk.1.2, hk.2⟩)), (mR HO194 (fun _ hk => ⟨hk.1.2, hk.2⟩)), (qB BK179), (qB BK180), (qB BK196), GW196.out, GE196.out, NB179_196.out, NB196_179.out, NB180_196.out, NB196_180.out, (qD HB)⟩)
            · skip
              refine box_step ?hg (N := 6) ?hd (cs := #[.int .i64 0, .slice none 0 0]) (t := 26) ?hr ?_; (case hd => rfl); (case hg => rfl); (case hr => first | (go_simp; done) | (go_simp; rfl))
              intro gb196 hg w36 hbox hb
              replace HO186 := uR HO186 hb
              replace HO190 := uR HO190 hb
              have BK196 := Aside0.mk (hbox)
              have GW196 := gE hg HB
              have GE196 := gE hg HB
              replace HB := uD HB hb
              have NB179_196 := nB hg BK179
              have NB196_179 := nC hg BK179
              replace BK179 := uB BK179 hb
              have NB180_196 := nB hg BK180
              have NB196_180 := nC hg BK180
              replace BK180 := uB BK180 hb
              clear hb hbox hg
              obtain ⟨Ao37, co37, eo37⟩ := Kd.R_slice HO186.out
              (first | subst eo37 | (injection eo37 with f1_ f2_ f3_; have f4_ := f1_.symm; have f5_ := f3_.symm; clear f1_ f2_ f3_; subst f4_; subst f5_))
              obtain ⟨Ao38, co38, eo38⟩ := Kd.R_slice HO190.out
              (first | subst eo38 | (injection eo38 with f1_ f2_ f3_; have f4_ := f1_.symm; have f5_ := f3_.symm; clear f1_ f2_ f3_; subst f4_; subst f5_))
              refine hK.out _ _ ⟨cl BK179 0, cl BK179 1, cl BK180 0, cl BK180 1⟩ (fun hHeld => ?_)
              clear hK K
              refine nm (some 6) ?_
              refine one_ (i := 4) (N := some 32) #[true, true, true, true, true, false, false, false, true, false, false] rfl rfl (one_of HT_.out (by kernel_rfl)) (by decide) (fun K hK => ?_)
              refine gt Try.func11 #[.agg #[.int .i64 t183, .slice Ao37 t184.length co37], .agg #[.int .i64 t187, .slice Ao38 t188.length co38]] ?_
              with_reducible refine (spec_BesideLadders.calls k t183 _ _ t184 t187 _ _ t188 t191 t192 t195 _ ?side1 ?side2 ?side3 ?side4 A21.out).mono ?_
              (case side1 => exact qC (Kd.R_reads' HO186.out).2.2)
              (case side2 => exact (Kd.R_reads' HO186.out).2.1)
              (case side3 => exact qC (Kd.R_reads' HO190.out).2.2)
              (case side4 => exact (Kd.R_reads' HO190.out).2.1)
              rintro e w39 ⟨v193, rfl, ho0, hb⟩
              refine ⟨_, rfl, ?_⟩
              have HO194 := Aside0.mk (Kd.R_lower (Kd.R_new' (Kd.R_new' ho0 (Kd.R_lt (qR HO186))) (Kd.R_lt (qR HO190))) (below_size (qD HB)))
              replace HO186 := eR HO186 ho0 hb
              replace HO190 := eR HO190 ho0 hb
              replace BK179 := uB BK179 hb
              replace BK180 := uB BK180 hb
              replace BK196 := uB BK196 hb
              replace HB := uD HB hb
              (try clear hb)
              (try clear hb2)
              (try clear hk)
              (try clear hi)
              (try clear ho0)
              refine hK.out _ _ ⟨cl BK179 0, cl BK179 1, cl BK180 0, cl BK180 1⟩ (fun hHeld => ?_)
              clear hK K
              refine nm (some 32) ?_
              refine pu 5 (some 27) #[true, true, true, true, true, true, false, false, true, false, false] HT_ ?_
              refine pu 6 (some 33) #[true, true, true, true, true, true, true, false, true, false, false] HT_ ?_
              refine pu 7 (some 34) #[true, true, true, true, true, true, true, true, true, false, false] HT_ ?_
              exact norm_ (by simp only [putAll, Act.put, List.setIfInBounds_toArray, List.set_cons_zero, List.set_cons_succ]) (hCont (.slice Ao37 t184.length co37, .slice Ao38 t188.length co38, v193, gb196) _ ⟨hHeld, (mR HO186 (fun _ hk => ⟨hk.1.2, hk.2⟩)), (mR HO190 (fun _ hk => ⟨hk.1.2, hk.2⟩)), (mR HO194 (fun _ hk => ⟨hk.1.2, hk.2⟩)), (qB BK179), (qB BK180), (qB BK196), GW196.out, GE196.out, NB179_196.out, NB196_179.out, NB180_196.out, NB196_180.out, (qD HB)⟩)
          · skip
            refine box_step ?hg (N := 6) ?hd (cs := #[.int .i64 0, .slice none 0 0]) (t := 26) ?hr ?_; (case hd => rfl); (case hg => rfl); (case hr => first | (go_simp; done) | (go_simp; rfl))
            intro gb196 hg w35 hbox hb
            replace HO186 := uR HO186 hb
            have BK196 := Aside0.mk (hbox)
            have GW196 := gE hg HB
            have GE196 := gE hg HB
            replace HB := uD HB hb
            have NB179_196 := nB hg BK179
            have NB196_179 := nC hg BK179
            replace BK179 := uB BK179 hb
            have NB180_196 := nB hg BK180
            have NB196_180 := nC hg BK180
            replace BK180 := uB BK180 hb
            clear hb hbox hg
            refine hK.out _ _ ⟨cl BK179 0, cl BK179 1, cl BK180 0, cl BK180 1⟩ (fun hHeld => ?_)
            clear hK K
            refine nm (some 6) ?_
            refine one_ (i := 3) (N := some 31) #[true, true, true, true, false, false, false, false, true, false, false] rfl rfl (one_of HT_.out (by kernel_rfl)) (by decide) (fun K hK => ?_)
            refine gt Try.func12 #[.agg #[.int .i64 a1_0, .slice A1_1 l1_1.length c1_1]] ?_
            with_reducible refine (laws_toLadder.calls k a1_0 _ _ l1_1 t187 t188 _ ?side1 ?side2 A20.out).mono ?_
            (case side1 => exact qC (Kd.C_below HR1_1.out HB.out))
            (case side2 => exact HC1_1.out)
            rintro e w36 ⟨v189, rfl, ho0, hb⟩
            refine ⟨_, rfl, ?_⟩
            have HO190 := Aside0.mk (Kd.R_lower (Kd.R_new' ho0 (Kd.R_lt (qR HO186))) (below_size (qD HB)))
            replace HO186 := eR HO186 ho0 hb
            replace BK179 := uB BK179 hb
            replace BK180 := uB BK180 hb
            replace BK196 := uB BK196 hb
            replace HB := uD HB hb
            (try clear hb)
            (try clear hb2)
            (try clear hk)
            (try clear hi)
            (try clear ho0)
            obtain ⟨Ao37, co37, eo37⟩ := Kd.R_slice HO186.out
            (first | subst eo37 | (injection eo37 with f1_ f2_ f3_; have f4_ := f1_.symm; have f5_ := f3_.symm; clear f1_ f2_ f3_; subst f4_; subst f5_))
            obtain ⟨Ao38, co38, eo38⟩ := Kd.R_slice HO190.out
            (first | subst eo38 | (injection eo38 with f1_ f2_ f3_; have f4_ := f1_.symm; have f5_ := f3_.symm; clear f1_ f2_ f3_; subst f4_; subst f5_))
            refine hK.out _ _ ⟨cl BK179 0, cl BK179 1, cl BK180 0, cl BK180 1⟩ (fun hHeld => ?_)
            clear hK K
            refine nm (some 31) ?_
            refine one_ (i := 4) (N := some 32) #[true, true, true, true, true, false, false, false, true, false, false] rfl rfl (one_of HT_.out (by kernel_rfl)) (by decide) (fun K hK => ?_)
            refine gt Try.func11 #[.agg #[.int .i64 t183, .slice Ao37 t184.length co37], .agg #[.int .i64 t187, .slice Ao38 t188.length co38]] ?_
            with_reducible refine (spec_BesideLadders.calls k t183 _ _ t184 t187 _ _ t188 t191 t192 t195 _ ?side1 ?side2 ?side3 ?side4 A21.out).mono ?_
            (case side1 => exact qC (Kd.R_reads' HO186.out).2.2)
            (case side2 => exact (Kd.R_reads' HO186.out).2.1)
            (case side3 => exact qC (Kd.R_reads' HO190.out).2.2)
            (case side4 => exact (Kd.R_reads' HO190.out).2.1)
            rintro e w39 ⟨v193, rfl, ho0, hb⟩
            refine ⟨_, rfl, ?_⟩
            have HO194 := Aside0.mk (Kd.R_lower (Kd.R_new' (Kd.R_new' ho0 (Kd.R_lt (qR HO186))) (Kd.R_lt (qR HO190))) (below_size (qD HB)))
            replace HO186 := eR HO186 ho0 hb
            replace HO190 := eR HO190 ho0 hb
            replace BK179 := uB BK179 hb
            replace BK180 := uB BK180 hb
            replace BK196 := uB BK196 hb
            replace HB := uD HB hb
            (try clear hb)
            (try clear hb2)
            (try clear hk)
            (try clear hi)
            (try clear ho0)
            refine hK.out _ _ ⟨cl BK179 0, cl BK179 1, cl BK180 0, cl BK180 1⟩ (fun hHeld => ?_)
            clear hK K
            refine nm (some 32) ?_
            refine pu 5 (some 27) #[true, true, true, true, true, true, false, false, true, false, false] HT_ ?_
            refine pu 6 (some 33) #[true, true, true, true, true, true, true, false, true, false, false] HT_ ?_
            refine pu 7 (some 34) #[true, true, true, true, true, true, true, true, true, false, false] HT_ ?_
            exact norm_ (by simp only [putAll, Act.put, List.setIfInBounds_toArray, List.set_cons_zero, List.set_cons_succ]) (hCont (.slice Ao37 t184.length co37, .slice Ao38 t188.length co38, v193, gb196) _ ⟨hHeld, (mR HO186 (fun _ hk => ⟨hk.1.2, hk.2⟩)), (mR HO190 (fun _ hk => ⟨hk.1.2, hk.2⟩)), (mR HO194 (fun _ hk => ⟨hk.1.2, hk.2⟩)), (qB BK179), (qB BK180), (qB BK196), GW196.out, GE196.out, NB179_196.out, NB196_179.out, NB180_196.out, NB196_180.out, (qD HB)⟩)
        · skip
          refine box_step ?hg (N := 6) ?hd (cs := #[.int .i64 0, .slice none 0 0]) (t := 26) ?hr ?_; (case hd => rfl); (case hg => rfl); (case hr => first | (go_simp; done) | (go_simp; rfl))
          intro gb196 hg w34 hbox hb
          have BK196 := Aside0.mk (hbox)
          have GW196 := gE hg HB
          have GE196 := gE hg HB
          replace HB := uD HB hb
          have NB179_196 := nB hg BK179
          have NB196_179 := nC hg BK179
          replace BK179 := uB BK179 hb
          have NB180_196 := nB hg BK180
          have NB196_180 := nC hg BK180
          replace BK180 := uB BK180 hb
          clear hb hbox hg
          refine hK.out _ _ ⟨cl BK179 0, cl BK179 1, cl BK180 0, cl BK180 1⟩ (fun hHeld => ?_)
          clear hK K
          refine nm (some 6) ?_
          refine one_ (i := 1) (N := some 29) #[true, true, true, false, false, false, false, false, true, false, false] rfl rfl (one_of HT_.out (by kernel_rfl)) (by decide) (fun K hK => ?_)
          refine gt Try.func12 #[.agg #[.int .i64 a0_0, .slice A0_1 l0_1.length c0_1]] ?_
          with_reducible refine (laws_toLadder.calls k a0_0 _ _ l0_1 t183 t184 _ ?side1 ?side2 A19.out).mono ?_
          (case side1 => exact qC (Kd.C_below HR0_1.out HB.out))
          (case side2 => exact HC0_1.out)
          rintro e w35 ⟨v185, rfl, ho0, hb⟩
          refine ⟨_, rfl, ?_⟩
          have HO186 := Aside0.mk (Kd.R_lower ho0 (below_size (qD HB)))
          replace BK179 := uB BK179 hb
          replace BK180 := uB BK180 hb
          replace BK196 := uB BK196 hb
          replace HB := uD HB hb
          (try clear hb)
          (try clear hb2)
          (try clear hk)
          (try clear hi)
          (try clear ho0)
          refine hK.out _ _ ⟨cl BK179 0, cl BK179 1, cl BK180 0, cl BK180 1⟩ (fun hHeld => ?_)
          clear hK K
          refine nm (some 29) ?_
          refine one_ (i := 3) (N := some 31) #[true, true, true, true, false, false, false, false, true, false, false] rfl rfl (one_of HT_.out (by kernel_rfl)) (by decide) (fun K hK => ?_)
          refine gt Try.func12 #[.agg #[.int .i64 a1_0, .slice A1_1 l1_1.length c1_1]] ?_
          with_reducible refine (laws_toLadder.calls k a1_0 _ _ l1_1 t187 t188 _ ?side1 ?side2 A20.out).mono ?_
          (case side1 => exact qC (Kd.C_below HR1_1.out HB.out))
          (case side2 => exact HC1_1.out)
          rintro e w36 ⟨v189, rfl, ho0, hb⟩
          refine ⟨_, rfl, ?_⟩
          have HO190 := Aside0.mk (Kd.R_lower (Kd.R_new' ho0 (Kd.R_lt (qR HO186))) (below_size (qD HB)))
          replace HO186 := eR HO186 ho0 hb
          replace BK179 := uB BK179 hb
          replace BK180 := uB BK180 hb
          replace BK196 := uB BK196 hb
          replace HB := uD HB hb
          (try clear hb)
          (try clear hb2)
          (try clear hk)
          (try clear hi)
          (try clear ho0)
          obtain ⟨Ao37, co37, eo37⟩ := Kd.R_slice HO186.out
          (first | subst eo37 | (injection eo37 with f1_ f2_ f3_; have f4_ := f1_.symm; have f5_ := f3_.symm; clear f1_ f2_ f3_; subst f4_; subst f5_))
          obtain ⟨Ao38, co38, eo38⟩ := Kd.R_slice HO190.out
          (first | subst eo38 | (injection eo38 with f1_ f2_ f3_; have f4_ := f1_.symm; have f5_ := f3_.symm; clear f1_ f2_ f3_; subst f4_; subst f5_))
          refine hK.out _ _ ⟨cl BK179 0, cl BK179 1, cl BK180 0, cl BK180 1⟩ (fun hHeld => ?_)
          clear hK K
          refine nm (some 31) ?_
          refine one_ (i := 4) (N := some 32) #[true, true, true, true, true, false, false, false, true, false, false] rfl rfl (one_of HT_.out (by kernel_rfl)) (by decide) (fun K hK => ?_)
          refine gt Try.func11 #[.agg #[.int .i64 t183, .slice Ao37 t184.length co37], .agg #[.int .i64 t187, .slice Ao38 t188.length co38]] ?_
          with_reducible refine (spec_BesideLadders.calls k t183 _ _ t184 t187 _ _ t188 t191 t192 t195 _ ?side1 ?side2 ?side3 ?side4 A21.out).mono ?_
          (case side1 => exact qC (Kd.R_reads' HO186.out).2.2)
          (case side2 => exact (Kd.R_reads' HO186.out).2.1)
          (case side3 => exact qC (Kd.R_reads' HO190.out).2.2)
          (case side4 => exact (Kd.R_reads' HO190.out).2.1)
          rintro e w39 ⟨v193, rfl, ho0, hb⟩
          refine ⟨_, rfl, ?_⟩
          have HO194 := Aside0.mk (Kd.R_lower (Kd.R_new' (Kd.R_new' ho0 (Kd.R_lt (qR HO186))) (Kd.R_lt (qR HO190))) (below_size (qD HB)))
          replace HO186 := eR HO186 ho0 hb
          replace HO190 := eR HO190 ho0 hb
          replace BK179 := uB BK179 hb
          replace BK180 := uB BK180 hb
          replace BK196 := uB BK196 hb
          replace HB := uD HB hb
          (try clear hb)
          (try clear hb2)
          (try clear hk)
          (try clear hi)
          (try clear ho0)
          refine hK.out _ _ ⟨cl BK179 0, cl BK179 1, cl BK180 0, cl BK180 1⟩ (fun hHeld => ?_)
          clear hK K
          refine nm (some 32) ?_
          refine pu 5 (some 27) #[true, true, true, true, true, true, false, false, true, false, false] HT_ ?_
          refine pu 6 (some 33) #[true, true, true, true, true, true, true, false, true, false, false] HT_ ?_
          refine pu 7 (some 34) #[true, true, true, true, true, true, true, true, true, false, false] HT_ ?_
          exact norm_ (by simp only [putAll, Act.put, List.setIfInBounds_toArray, List.set_cons_zero, List.set_cons_succ]) (hCont (.slice Ao37 t184.length co37, .slice Ao38 t188.length co38, v193, gb196) _ ⟨hHeld, (mR HO186 (fun _ hk => ⟨hk.1.2, hk.2⟩)), (mR HO190 (fun _ hk => ⟨hk.1.2, hk.2⟩)), (mR HO194 (fun _ hk => ⟨hk.1.2, hk.2⟩)), (qB BK179), (qB BK180), (qB BK196), GW196.out, GE196.out, NB179_196.out, NB196_179.out, NB180_196.out, NB196_180.out, (qD HB)⟩)
      rintro ⟨v185, v189, v193, gb196⟩ w40 ⟨hS_, h0_, h1_, h2_, h3_, h4_, h5_, h6_, h7_, h8_, h9_, h10_, h11_, h12_⟩
      have n0_ : Aside0 (Kd.R (Kd.int .i64) 3 w40 w.heap.size (fun k_ => some k_ ≠ (v189 : Value).ownBlock ∧ some k_ ≠ (v193 : Value).ownBlock) v185 t184) := ⟨h0_⟩
      have n1_ : Aside0 (Kd.R (Kd.int .i64) 3 w40 w.heap.size (fun k_ => some k_ ≠ (v185 : Value).ownBlock ∧ some k_ ≠ (v193 : Value).ownBlock) v189 t188) := ⟨h1_⟩
      have n2_ : Aside0 (Kd.R (Kd.int .i64) 3 w40 w.heap.size (fun k_ => some k_ ≠ (v185 : Value).ownBlock ∧ some k_ ≠ (v189 : Value).ownBlock) v193 t192) := ⟨h2_⟩
      have n3_ : Aside0 (w40.heap[gb179]? = some (.cells #[.int .i64 a0_0, .slice A0_1 l0_1.length c0_1] 24 (0, 0))) := ⟨h3_⟩
      have n4_ : Aside0 (w40.heap[gb180]? = some (.cells #[.int .i64 a1_0, .slice A1_1 l1_1.length c1_1] 24 (0, 0))) := ⟨h4_⟩
      have n5_ : Aside0 (w40.heap[gb196]? = some (.cells #[.int .i64 0, .slice none 0 0] 26 (0, 0))) := ⟨h5_⟩
      have n6_ : Aside0 (w.heap.size ≤ gb196) := ⟨h6_⟩
      have n7_ : Aside0 (w.heap.size ≤ gb196) := ⟨h7_⟩
      have n8_ : Aside0 (gb179 ≠ gb196) := ⟨h8_⟩
      have n9_ : Aside0 (gb196 ≠ gb179) := ⟨h9_⟩
      have n10_ : Aside0 (gb180 ≠ gb196) := ⟨h10_⟩
      have n11_ : Aside0 (gb196 ≠ gb180) := ⟨h11_⟩
      have n12_ : Aside0 (Below w.heap.size w w40) := ⟨h12_⟩
      clear BK179
      clear BK180
      clear HB
      clear h0_ h1_ h2_ h3_ h4_ h5_ h6_ h7_ h8_ h9_ h10_ h11_ h12_
      have HO186 := n0_
      have HO190 := n1_
      have HO194 := n2_
      have BK179 := n3_
      have BK180 := n4_
      have BK196 := n5_
      have GW196 := n6_
      have GE196 := n7_
      have NB179_196 := n8_
      have NB196_179 := n9_
      have NB180_196 := n10_
      have NB196_180 := n11_
      have HB := n12_
      clear n0_ n1_ n2_ n3_ n4_ n5_ n6_ n7_ n8_ n9_ n10_ n11_ n12_
      have hHeld : w40.cell? ⟨gb179, 0, none⟩ = some (.int .i64 a0_0) ∧ w40.cell? ⟨gb179, 1, none⟩ = some (.slice A0_1 l0_1.length c0_1) ∧ w40.cell? ⟨gb180, 0, none⟩ = some (.int .i64 a1_0) ∧ w40.cell? ⟨gb180, 1, none⟩ = some (.slice A1_1 l1_1.length c1_1) := hS_
      obtain ⟨Ao42, co42, eo42⟩ := Kd.R_slice HO194.out
      (first | subst eo42 | (injection eo42 with f1_ f2_ f3_; have f4_ := f1_.symm; have f5_ := f3_.symm; clear f1_ f2_ f3_; subst f4_; subst f5_))
      refine norm_ (a' := ?_) ?_ ?_
      rotate_left
      · simp only [putAll, Act.put, List.setIfInBounds_toArray, List.set_cons_zero, List.set_cons_succ]
        rfl
      refine one_ (i := 9) (N := none) #[true, true, true, true, true, true, true, true, true, true, false] rfl rfl (one_of HT_.out (by kernel_rfl)) (by decide) (fun K hK => ?_)
      have hs41 : w40.cell? ⟨gb196, 0, none⟩ = some (.int .i64 0) := cl BK196 0
      have hfs41 := blk_frozen BK196.out 0
      have hns41_0 := NB179_196.out
      have hns41_1 := NB180_196.out
      have hms41_0 := NB196_179.out
      have hms41_1 := NB196_180.out
      have hs43 : w40.cell? ⟨gb196, 1, none⟩ = some (.slice none 0 0) := cl BK196 1
      have hfs43 := blk_frozen BK196.out 1
      have hns43_0 := NB179_196.out
      have hns43_1 := NB180_196.out
      have hms43_0 := NB196_179.out
      have hms43_1 := NB196_180.out
      refine skip_ (w1 := ?_) (by rfl) rfl ?_ ?_
      rotate_left
      · go_simp
        rfl
      refine hK.out _ _ ⟨((cell_far (p := ⟨gb196, _, none⟩) NB179_196.out _).trans (((cell_far (p := ⟨gb196, _, none⟩) NB179_196.out _).trans (hHeld.1)))), ((cell_far (p := ⟨gb196, _, none⟩) NB179_196.out _).trans (((cell_far (p := ⟨gb196, _, none⟩) NB179_196.out _).trans (hHeld.2.1)))), ((cell_far (p := ⟨gb196, _, none⟩) NB180_196.out _).trans (((cell_far (p := ⟨gb196, _, none⟩) NB180_196.out _).trans (hHeld.2.2.1)))), ((cell_far (p := ⟨gb196, _, none⟩) NB180_196.out _).trans (((cell_far (p := ⟨gb196, _, none⟩) NB180_196.out _).trans (hHeld.2.2.2))))⟩ (fun hHeld => ?_)
      clear hK K
      refine pu 10 (some 7) #[true, true, true, true, true, true, true, true, true, true, true] HT_ ?_
      refine done_ (done_of HT_.out (by kernel_rfl)) ?_
      have hnb44 := NB179_196.out
      have hnc44 := NB196_179.out
      have hcz45_0 := cl BK179 0
      have hcz45_1 := cl BK179 1
      have hfz45_0 := blk_frozen BK179.out 0
      have hfz45_1 := blk_frozen BK179.out 1
      go_upto_region 12 with (first | ((with_reducible refine gate_callee (f := 12) rfl ?_); refine gs (some 36) Try.func12 #[.agg #[.int .i64 a0_0, .slice A0_1 l0_1.length c0_1]] ?_; (with_reducible refine (laws_toLadder.calls k a0_0 _ _ l0_1 t197 t198 _ ?side1 ?side2 A22.out).mono ?_); (case side1 => exact Kd.C_below HR0_1.out (qD HB)); (case side2 => exact HC0_1.out); rintro e w46 ⟨v199, rfl, ho0, hb⟩; refine ⟨_, rfl, ?_⟩; have n0_ := Aside0.mk (Kd.R_elder' (qFp (qF HO186 BK196)) (Kd.R_base ho0) hb); have n1_ := Aside0.mk (Kd.R_elder' (qFp (qF HO190 BK196)) (Kd.R_base ho0) hb); have n2_ := Aside0.mk (Kd.R_elder' (qFp (qF HO194 BK196)) (Kd.R_base ho0) hb); have n3_ := Aside0.mk (Kd.R_lower (Kd.R_new' (Kd.R_new' (Kd.R_new' ho0 (Kd.R_lt (qFp (qF HO186 BK196)))) (Kd.R_lt (qFp (qF HO190 BK196)))) (Kd.R_lt (qFp (qF HO194 BK196)))) (below_size (qD HB))); have n4_ := uB BK179 hb; have n5_ := uB BK180 hb; have n6_ := Aside0.mk (blk_below (g := gb196) (o := .cells #[.int .i64 t191, .slice Ao42 t192.length co42] 26 (0, 0)) (by (with_reducible repeat (first | refine blk_drewN ?_ _ | refine blk_drew ?_ | refine blk_alloc ?_ _)); refine blk_put (cs := #[.int .i64 t191, .slice none 0 0]) ?_ 1 _ rfl; (with_reducible repeat (first | refine blk_drewN ?_ _ | refine blk_drew ?_ | refine blk_alloc ?_ _)); refine blk_put (cs := #[.int .i64 0, .slice none 0 0]) ?_ 0 _ rfl; (with_reducible repeat (first | refine blk_drewN ?_ _ | refine blk_drew ?_ | refine blk_alloc ?_ _)); exact BK196.out) hb); have n7_ := uD HB hb; clear HO186; clear HO190; clear HO194; clear BK179; clear BK180; clear BK196; clear HB; have HO186 := n0_; have HO190 := n1_; have HO194 := n2_; have HO200 := n3_; have BK179 := n4_; have BK180 := n5_; have BK196 := n6_; have HB := n7_; clear n0_ n1_ n2_ n3_ n4_ n5_ n6_ n7_; (try clear hb); (try clear hb2); (try clear hk); (try clear hi); (try clear ho0)) | ((with_reducible refine gate_dst (N := 8) rfl ?_); refine bx 8 #[.int .i64 0, .slice none 0 0] 26 ?_; intro gb201 hg w47 hbox hb; replace HO186 := uR HO186 hb; replace HO190 := uR HO190 hb; replace HO194 := uR HO194 hb; replace HO200 := uR HO200 hb; have BK201 := Aside0.mk (hbox); have GW201 := gE hg HB; have GE201 := gE hg HB; replace HB := uD HB hb; have NB179_201 := nB hg BK179; have NB201_179 := nC hg BK179; replace BK179 := uB BK179 hb; have NB180_201 := nB hg BK180; have NB201_180 := nC hg BK180; replace BK180 := uB BK180 hb; have NB196_201 := nB hg BK196; have NB201_196 := nC hg BK196; replace BK196 := uB BK196 hb; clear hb hbox hg; have hnb48 := NB201_179.out; have hnc48 := NB179_201.out; have hnb49 := NB201_180.out; have hnc49 := NB180_201.out; have hnb50 := NB201_196.out; have hnc50 := NB196_201.out; have hcz51_0 := cl BK201 0; have hcz51_1 := cl BK201 1; have hfz51_0 := blk_frozen BK201.out 0; have hfz51_1 := blk_frozen BK201.out 1; obtain ⟨Ao52, co52, eo52⟩ := Kd.R_slice HO200.out; subst eo52; have hnb53 := NB180_196.out; have hnc53 := NB196_180.out; have hcz54_0 := cl BK180 0; have hcz54_1 := cl BK180 1; have hfz54_0 := blk_frozen BK180.out 0; have hfz54_1 := blk_frozen BK180.out 1) | ((with_reducible refine gate_callee (f := 12) rfl ?_); refine gs (some 38) Try.func12 #[.agg #[.int .i64 a1_0, .slice A1_1 l1_1.length c1_1]] ?_; (with_reducible refine (laws_toLadder.calls k a1_0 _ _ l1_1 t202 t203 _ ?side1 ?side2 A23.out).mono ?_); (case side1 => exact Kd.C_below HR1_1.out (qD HB)); (case side2 => exact HC1_1.out); rintro e w55 ⟨v204, rfl, ho0, hb⟩; refine ⟨_, rfl, ?_⟩; have n0_ := Aside0.mk (Kd.R_elder' (qFp (qF HO186 BK201)) (Kd.R_base ho0) hb); have n1_ := Aside0.mk (Kd.R_elder' (qFp (qF HO190 BK201)) (Kd.R_base ho0) hb); have n2_ := Aside0.mk (Kd.R_elder' (qFp (qF HO194 BK201)) (Kd.R_base ho0) hb); have n3_ := Aside0.mk (Kd.R_elder' (qFp (qF HO200 BK201)) (Kd.R_base ho0) hb); have n4_ := Aside0.mk (Kd.R_lower (Kd.R_new' (Kd.R_new' (Kd.R_new' (Kd.R_new' ho0 (Kd.R_lt (qFp (qF HO186 BK201)))) (Kd.R_lt (qFp (qF HO190 BK201)))) (Kd.R_lt (qFp (qF HO194 BK201)))) (Kd.R_lt (qFp (qF HO200 BK201)))) (below_size (qD HB))); have n5_ := uB BK179 hb; have n6_ := uB BK180 hb; have n7_ := uB BK196 hb; have n8_ := Aside0.mk (blk_below (g := gb201) (o := .cells #[.int .i64 t197, .slice Ao52 t198.length co52] 26 (0, 0)) (by (with_reducible repeat (first | refine blk_drewN ?_ _ | refine blk_drew ?_ | refine blk_alloc ?_ _)); refine blk_put (cs := #[.int .i64 t197, .slice none 0 0]) ?_ 1 _ rfl; (with_reducible repeat (first | refine blk_drewN ?_ _ | refine blk_drew ?_ | refine blk_alloc ?_ _)); refine blk_put (cs := #[.int .i64 0, .slice none 0 0]) ?_ 0 _ rfl; (with_reducible repeat (first | refine blk_drewN ?_ _ | refine blk_drew ?_ | refine blk_alloc ?_ _)); exact BK201.out) hb); have n9_ := uD HB hb; clear HO186; clear HO190; clear HO194; clear HO200; clear BK179; clear BK180; clear BK196; clear BK201; clear HB; have HO186 := n0_; have HO190 := n1_; have HO194 := n2_; have HO200 := n3_; have HO205 := n4_; have BK179 := n5_; have BK180 := n6_; have BK196 := n7_; have BK201 := n8_; have HB := n9_; clear n0_ n1_ n2_ n3_ n4_ n5_ n6_ n7_ n8_ n9_; (try clear hb); (try clear hb2); (try clear hk); (try clear hi); (try clear ho0)) | ((with_reducible refine gate_dst (N := 9) rfl ?_); refine bx 9 #[.int .i64 0, .slice none 0 0] 26 ?_; intro gb206 hg w56 hbox hb; replace HO186 := uR HO186 hb; replace HO190 := uR HO190 hb; replace HO194 := uR HO194 hb; replace HO200 := uR HO200 hb; replace HO205 := uR HO205 hb; have BK206 := Aside0.mk (hbox); have GW206 := gE hg HB; have GE206 := gE hg HB; replace HB := uD HB hb; have NB179_206 := nB hg BK179; have NB206_179 := nC hg BK179; replace BK179 := uB BK179 hb; have NB180_206 := nB hg BK180; have NB206_180 := nC hg BK180; replace BK180 := uB BK180 hb; have NB196_206 := nB hg BK196; have NB206_196 := nC hg BK196; replace BK196 := uB BK196 hb; have NB201_206 := nB hg BK201; have NB206_201 := nC hg BK201; replace BK201 := uB BK201 hb; clear hb hbox hg; have hnb57 := NB206_179.out; have hnc57 := NB179_206.out; have hnb58 := NB206_180.out; have hnc58 := NB180_206.out; have hnb59 := NB206_196.out; have hnc59 := NB196_206.out; have hnb60 := NB206_201.out; have hnc60 := NB201_206.out; have hcz61_0 := cl BK206 0; have hcz61_1 := cl BK206 1; have hfz61_0 := blk_frozen BK206.out 0; have hfz61_1 := blk_frozen BK206.out 1; obtain ⟨Ao62, co62, eo62⟩ := Kd.R_slice HO205.out; subst eo62; have hcz63_0 := cl BK201 0; have hcz63_1 := cl BK201 1; have hfz63_0 := blk_frozen BK201.out 0; have hfz63_1 := blk_frozen BK201.out 1) | ((with_reducible refine gate_callee (f := 13) rfl ?_); refine gs (some 42) Try.func13 #[.agg #[.int .i64 t197, .slice Ao52 t198.length co52], .agg #[.int .i64 t202, .slice Ao62 t203.length co62]] ?_; (with_reducible refine (impl_BesideLadders.calls k t197 _ _ t198 t202 _ _ t203 t207 t208 t211 _ ?side1 ?side2 ?side3 ?side4 A24.out).mono ?_); (case side1 => refine (Kd.R_reads' (e := 3) (base := w.heap.size) (ok := fun k_ => ((((True ∧ some k_ ≠ (v185 : Value).ownBlock) ∧ some k_ ≠ (v189 : Value).ownBlock) ∧ some k_ ≠ (.slice Ao42 t192.length co42 : Value).ownBlock) ∧ some k_ ≠ (.slice Ao62 t203.length co62 : Value).ownBlock)) (n := t198.length) (c := co52) ?_).2.2; exact (qFp (qF HO200 BK206))); (case side2 => exact (Kd.R_reads' HO200.out).2.1); (case side3 => refine (Kd.R_reads' (e := 3) (base := w.heap.size) (ok := fun k_ => ((((True ∧ some k_ ≠ (v185 : Value).ownBlock) ∧ some k_ ≠ (v189 : Value).ownBlock) ∧ some k_ ≠ (.slice Ao42 t192.length co42 : Value).ownBlock) ∧ some k_ ≠ (.slice Ao52 t198.length co52 : Value).ownBlock)) (n := t203.length) (c := co62) ?_).2.2; exact (qFp (qF HO205 BK206))); (case side4 => exact (Kd.R_reads' HO205.out).2.1); rintro e w64 ⟨v209, rfl, ho0, hb⟩; refine ⟨_, rfl, ?_⟩; have n0_ := Aside0.mk (Kd.R_elder' (qFp (qF HO186 BK206)) (Kd.R_base ho0) hb); have n1_ := Aside0.mk (Kd.R_elder' (qFp (qF HO190 BK206)) (Kd.R_base ho0) hb); have n2_ := Aside0.mk (Kd.R_elder' (qFp (qF HO194 BK206)) (Kd.R_base ho0) hb); have n3_ := Aside0.mk (Kd.R_elder' (qFp (qF HO200 BK206)) (Kd.R_base ho0) hb); have n4_ := Aside0.mk (Kd.R_elder' (qFp (qF HO205 BK206)) (Kd.R_base ho0) hb); have n5_ := Aside0.mk (Kd.R_lower (Kd.R_new' (Kd.R_new' (Kd.R_new' (Kd.R_new' (Kd.R_new' ho0 (Kd.R_lt (qFp (qF HO186 BK206)))) (Kd.R_lt (qFp (qF HO190 BK206)))) (Kd.R_lt (qFp (qF HO194 BK206)))) (Kd.R_lt (qFp (qF HO200 BK206)))) (Kd.R_lt (qFp (qF HO205 BK206)))) (below_size (qD HB))); have n6_ := uB BK179 hb; have n7_ := uB BK180 hb; have n8_ := uB BK196 hb; have n9_ := uB BK201 hb; have n10_ := Aside0.mk (blk_below (g := gb206) (o := .cells #[.int .i64 t202, .slice Ao62 t203.length co62] 26 (0, 0)) (by (with_reducible repeat (first | refine blk_drewN ?_ _ | refine blk_drew ?_ | refine blk_alloc ?_ _)); refine blk_put (cs := #[.int .i64 t202, .slice none 0 0]) ?_ 1 _ rfl; (with_reducible repeat (first | refine blk_drewN ?_ _ | refine blk_drew ?_ | refine blk_alloc ?_ _)); refine blk_put (cs := #[.int .i64 0, .slice none 0 0]) ?_ 0 _ rfl; (with_reducible repeat (first | refine blk_drewN ?_ _ | refine blk_drew ?_ | refine blk_alloc ?_ _)); exact BK206.out) hb); have n11_ := uD HB hb; clear HO186; clear HO190; clear HO194; clear HO200; clear HO205; clear BK179; clear BK180; clear BK196; clear BK201; clear BK206; clear HB; have HO186 := n0_; have HO190 := n1_; have HO194 := n2_; have HO200 := n3_; have HO205 := n4_; have HO210 := n5_; have BK179 := n6_; have BK180 := n7_; have BK196 := n8_; have BK201 := n9_; have BK206 := n10_; have HB := n11_; clear n0_ n1_ n2_ n3_ n4_ n5_ n6_ n7_ n8_ n9_ n10_ n11_; (try clear hb); (try clear hb2); (try clear hk); (try clear hi); (try clear ho0)) | ((with_reducible refine gate_dst (N := 10) rfl ?_); refine bx 10 #[.int .i64 0, .slice none 0 0] 26 ?_; intro gb212 hg w65 hbox hb; replace HO186 := uR HO186 hb; replace HO190 := uR HO190 hb; replace HO194 := uR HO194 hb; replace HO200 := uR HO200 hb; replace HO205 := uR HO205 hb; replace HO210 := uR HO210 hb; have BK212 := Aside0.mk (hbox); have GW212 := gE hg HB; have GE212 := gE hg HB; replace HB := uD HB hb; have NB179_212 := nB hg BK179; have NB212_179 := nC hg BK179; replace BK179 := uB BK179 hb; have NB180_212 := nB hg BK180; have NB212_180 := nC hg BK180; replace BK180 := uB BK180 hb; have NB196_212 := nB hg BK196; have NB212_196 := nC hg BK196; replace BK196 := uB BK196 hb; have NB201_212 := nB hg BK201; have NB212_201 := nC hg BK201; replace BK201 := uB BK201 hb; have NB206_212 := nB hg BK206; have NB212_206 := nC hg BK206; replace BK206 := uB BK206 hb; clear hb hbox hg; have hnb66 := NB212_179.out; have hnc66 := NB179_212.out; have hnb67 := NB212_180.out; have hnc67 := NB180_212.out; have hnb68 := NB212_196.out; have hnc68 := NB196_212.out; have hnb69 := NB212_201.out; have hnc69 := NB201_212.out; have hnb70 := NB212_206.out; have hnc70 := NB206_212.out; have hcz71_0 := cl BK212 0; have hcz71_1 := cl BK212 1; have hfz71_0 := blk_frozen BK212.out 0; have hfz71_1 := blk_frozen BK212.out 1; obtain ⟨Ao72, co72, eo72⟩ := Kd.R_slice HO210.out; subst eo72))
      (try simp only [Act.put, List.setIfInBounds_toArray, List.set_cons_zero, List.set_cons_succ])
      go_cut [53] (fun v53 wc => ∃ (kq : Nat) (x53_24 : Bool), v53 = .bool x53_24 ∧ Aside0 (laws_FnExactBesideLadders.j0 kq t195 t211 x53_24 a0_0 l0_1 a1_0 l1_1 t191 t192 t197 t198 t202 t203 t207 t208 = some r) ∧ Aside0 (kq ≤ k) ∧ Aside0 (Kd.R (Kd.int .i64) 3 wc w.heap.size (fun k_ => some k_ ≠ ((.slice Ao52 t198.length co52) : Value).ownBlock ∧ some k_ ≠ ((.slice Ao62 t203.length co62) : Value).ownBlock ∧ some k_ ≠ ((.slice Ao72 t208.length co72) : Value).ownBlock) (.slice Ao42 t192.length co42) t192) ∧ Aside0 (Kd.R (Kd.int .i64) 3 wc w.heap.size (fun k_ => some k_ ≠ ((.slice Ao42 t192.length co42) : Value).ownBlock ∧ some k_ ≠ ((.slice Ao62 t203.length co62) : Value).ownBlock ∧ some k_ ≠ ((.slice Ao72 t208.length co72) : Value).ownBlock) (.slice Ao52 t198.length co52) t198) ∧ Aside0 (Kd.R (Kd.int .i64) 3 wc w.heap.size (fun k_ => some k_ ≠ ((.slice Ao42 t192.length co42) : Value).ownBlock ∧ some k_ ≠ ((.slice Ao52 t198.length co52) : Value).ownBlock ∧ some k_ ≠ ((.slice Ao72 t208.length co72) : Value).ownBlock) (.slice Ao62 t203.length co62) t203) ∧ Aside0 (Kd.R (Kd.int .i64) 3 wc w.heap.size (fun k_ => some k_ ≠ ((.slice Ao42 t192.length co42) : Value).ownBlock ∧ some k_ ≠ ((.slice Ao52 t198.length co52) : Value).ownBlock ∧ some k_ ≠ ((.slice Ao62 t203.length co62) : Value).ownBlock) (.slice Ao72 t208.length co72) t208) ∧ Aside0 (wc.heap[gb179]? = some (.cells #[.int .i64 a0_0, (.slice A0_1 l0_1.length c0_1)] 24 (0, 0))) ∧ Aside0 (wc.heap[gb180]? = some (.cells #[.int .i64 a1_0, (.slice A1_1 l1_1.length c1_1)] 24 (0, 0))) ∧ Aside0 (wc.heap[gb196]? = some (.cells #[.int .i64 t191, (.slice Ao42 t192.length co42)] 26 (0, 0))) ∧ Aside0 (wc.heap[gb201]? = some (.cells #[.int .i64 t197, (.slice Ao52 t198.length co52)] 26 (0, 0))) ∧ Aside0 (wc.heap[gb206]? = some (.cells #[.int .i64 t202, (.slice Ao62 t203.length co62)] 26 (0, 0))) ∧ Aside0 (wc.heap[gb212]? = some (.cells #[.int .i64 t207, (.slice Ao72 t208.length co72)] 26 (0, 0))) ∧ Aside0 (Below w.heap.size w wc))
      case first =>
        have H := HC25.out
        clear HC25
        replace H := Option.bind_eq_some_iff.mp H
        obtain ⟨t213, A730, H⟩ := H
        replace H : (if t213 = true then (laws_FnExactBesideLadders.j0 k t195 t211 (t211 != t195) a0_0 l0_1 a1_0 l1_1 t191 t192 t197 t198 t202 t203 t207 t208) else (laws_FnExactBesideLadders.j0 k t195 t211 true a0_0 l0_1 a1_0 l1_1 t191 t192 t197 t198 t202 t203 t207 t208)) = some r := H
        have A73 := Aside0.mk A730
        clear A730
        by_cases c74 : t213 = true
        · subst c74
          have H1 : (laws_FnExactBesideLadders.j0 k t195 t211 (t211 != t195) a0_0 l0_1 a1_0 l1_1 t191 t192 t197 t198 t202 t203 t207 t208) = some r := by rw [if_pos rfl] at H; exact H
          clear H
          have H := H1
          clear H1
          have H' := Aside0.mk H
          clear H
          have hnb75 := NB212_179.out
          have hnc75 := NB179_212.out
          have hnb76 := NB212_180.out
          have hnc76 := NB180_212.out
          have hnb77 := NB212_196.out
          have hnc77 := NB196_212.out
          have hnb78 := NB212_201.out
          have hnc78 := NB201_212.out
          have hnb79 := NB212_206.out
          have hnc79 := NB206_212.out
          have hcz80_0 := cl BK212 0
          have hcz80_1 := cl BK212 1
          have hfz80_0 := blk_frozen BK212.out 0
          have hfz80_1 := blk_frozen BK212.out 1
          have hnb81 := NB196_179.out
          have hnc81 := NB179_196.out
          have hnb82 := NB196_180.out
          have hnc82 := NB180_196.out
          have hnb83 := NB196_201.out
          have hnc83 := NB201_196.out
          have hnb84 := NB196_206.out
          have hnc84 := NB206_196.out
          have hcz85_0 := cl BK196 0
          have hcz85_1 := cl BK196 1
          have hfz85_0 := blk_frozen BK196.out 0
          have hfz85_1 := blk_frozen BK196.out 1
          go_wp2_with (first | ((with_reducible refine gate_callee (f := 14) rfl ?_); refine gs (some 47) Try.func14 #[.agg #[.int .i64 t207, .slice Ao72 t208.length co72], .agg #[.int .i64 t191, .slice Ao42 t192.length co42]] ?_; (with_reducible refine (laws_eqLadder.calls k t207 _ _ t208 t191 _ _ t192 true _ ?side1 ?side2 ?side3 ?side4 A73.out).mono ?_); (case side1 => refine (Kd.R_reads' (e := 3) (base := w.heap.size) (ok := fun k_ => (((((True ∧ some k_ ≠ (v185 : Value).ownBlock) ∧ some k_ ≠ (v189 : Value).ownBlock) ∧ some k_ ≠ (.slice Ao42 t192.length co42 : Value).ownBlock) ∧ some k_ ≠ (.slice Ao52 t198.length co52 : Value).ownBlock) ∧ some k_ ≠ (.slice Ao62 t203.length co62 : Value).ownBlock)) (n := t208.length) (c := co72) ?_).2.2; exact (qFp (qF HO210 BK212))); (case side2 => exact (Kd.R_reads' HO210.out).2.1); (case side3 => refine (Kd.R_reads' (e := 3) (base := w.heap.size) (ok := fun k_ => ((((some k_ ≠ (v185 : Value).ownBlock ∧ some k_ ≠ (v189 : Value).ownBlock) ∧ some k_ ≠ (.slice Ao52 t198.length co52 : Value).ownBlock) ∧ some k_ ≠ (.slice Ao62 t203.length co62 : Value).ownBlock) ∧ some k_ ≠ (.slice Ao72 t208.length co72 : Value).ownBlock)) (n := t192.length) (c := co42) ?_).2.2; exact (qFp (qF HO194 BK212))); (case side4 => exact (Kd.R_reads' HO194.out).2.1); rintro e w86 ⟨rfl, hb⟩; refine ⟨_, rfl, ?_⟩; have n0_ := Aside0.mk (Kd.R_below (qFp (qF HO186 BK212)) hb); have n1_ := Aside0.mk (Kd.R_below (qFp (qF HO190 BK212)) hb); have n2_ := Aside0.mk (Kd.R_below (qFp (qF HO194 BK212)) hb); have n3_ := Aside0.mk (Kd.R_below (qFp (qF HO200 BK212)) hb); have n4_ := Aside0.mk (Kd.R_below (qFp (qF HO205 BK212)) hb); have n5_ := Aside0.mk (Kd.R_below (qFp (qF HO210 BK212)) hb); have n6_ := uB BK179 hb; have n7_ := uB BK180 hb; have n8_ := uB BK196 hb; have n9_ := uB BK201 hb; have n10_ := uB BK206 hb; have n11_ := Aside0.mk (blk_below (g := gb212) (o := .cells #[.int .i64 t207, .slice Ao72 t208.length co72] 26 (0, 0)) (by (with_reducible repeat (first | refine blk_drewN ?_ _ | refine blk_drew ?_ | refine blk_alloc ?_ _)); refine blk_put (cs := #[.int .i64 t207, .slice none 0 0]) ?_ 1 _ rfl; (with_reducible repeat (first | refine blk_drewN ?_ _ | refine blk_drew ?_ | refine blk_alloc ?_ _)); refine blk_put (cs := #[.int .i64 0, .slice none 0 0]) ?_ 0 _ rfl; (with_reducible repeat (first | refine blk_drewN ?_ _ | refine blk_drew ?_ | refine blk_alloc ?_ _)); exact BK212.out) hb); have n12_ := uD HB hb; clear HO186; clear HO190; clear HO194; clear HO200; clear HO205; clear HO210; clear BK179; clear BK180; clear BK196; clear BK201; clear BK206; clear BK212; clear HB; have HO186 := n0_; have HO190 := n1_; have HO194 := n2_; have HO200 := n3_; have HO205 := n4_; have HO210 := n5_; have BK179 := n6_; have BK180 := n7_; have BK196 := n8_; have BK201 := n9_; have BK206 := n10_; have BK212 := n11_; have HB := n12_; clear n0_ n1_ n2_ n3_ n4_ n5_ n6_ n7_ n8_ n9_ n10_ n11_ n12_; (try clear hb); (try clear hb2); (try clear hk); (try clear hi)))
          go_meet
          case rel => exact ⟨_, ((t211 != t195)), (by first | rfl | (simp; done) | (simp [*]; done)), H', ⟨by first | omega | exact Nat.le_refl _⟩, ⟨mR HO194 (fun _ hk => ⟨hk.1.1.2, ⟨hk.1.2, hk.2⟩⟩)⟩, ⟨mR HO200 (fun _ hk => ⟨hk.1.1.2, ⟨hk.1.2, hk.2⟩⟩)⟩, ⟨mR HO205 (fun _ hk => ⟨hk.1.1.2, ⟨hk.1.2, hk.2⟩⟩)⟩, ⟨mR HO210 (fun _ hk => ⟨hk.1.1.2, ⟨hk.1.2, hk.2⟩⟩)⟩, ⟨qB BK179⟩, ⟨qB BK180⟩, ⟨qB BK196⟩, ⟨qB BK201⟩, ⟨qB BK206⟩, ⟨qB BK212⟩, ⟨qD HB⟩⟩
        · replace c74 := Bool.eq_false_iff.mpr c74
          subst c74
          have H1 : (laws_FnExactBesideLadders.j0 k t195 t211 true a0_0 l0_1 a1_0 l1_1 t191 t192 t197 t198 t202 t203 t207 t208) = some r := by rw [if_neg (show ¬ (false = true) by decide)] at H; exact H
          clear H
          have H := H1
          clear H1
          have H' := Aside0.mk H
          clear H
          have hnb87 := NB212_179.out
          have hnc87 := NB179_212.out
          have hnb88 := NB212_180.out
          have hnc88 := NB180_212.out
          have hnb89 := NB212_196.out
          have hnc89 := NB196_212.out
          have hnb90 := NB212_201.out
          have hnc90 := NB201_212.out
          have hnb91 := NB212_206.out
          have hnc91 := NB206_212.out
          have hcz92_0 := cl BK212 0
          have hcz92_1 := cl BK212 1
          have hfz92_0 := blk_frozen BK212.out 0
          have hfz92_1 := blk_frozen BK212.out 1
          have hnb93 := NB196_179.out
          have hnc93 := NB179_196.out
          have hnb94 := NB196_180.out
          have hnc94 := NB180_196.out
          have hnb95 := NB196_201.out
          have hnc95 := NB201_196.out
          have hnb96 := NB196_206.out
          have hnc96 := NB206_196.out
          have hcz97_0 := cl BK196 0
          have hcz97_1 := cl BK196 1
          have hfz97_0 := blk_frozen BK196.out 0
          have hfz97_1 := blk_frozen BK196.out 1
          go_wp2_with (first | ((with_reducible refine gate_callee (f := 14) rfl ?_); refine gs (some 47) Try.func14 #[.agg #[.int .i64 t207, .slice Ao72 t208.length co72], .agg #[.int .i64 t191, .slice Ao42 t192.length co42]] ?_; (with_reducible refine (laws_eqLadder.calls k t207 _ _ t208 t191 _ _ t192 false _ ?side1 ?side2 ?side3 ?side4 A73.out).mono ?_); (case side1 => refine (Kd.R_reads' (e := 3) (base := w.heap.size) (ok := fun k_ => (((((True ∧ some k_ ≠ (v185 : Value).ownBlock) ∧ some k_ ≠ (v189 : Value).ownBlock) ∧ some k_ ≠ (.slice Ao42 t192.length co42 : Value).ownBlock) ∧ some k_ ≠ (.slice Ao52 t198.length co52 : Value).ownBlock) ∧ some k_ ≠ (.slice Ao62 t203.length co62 : Value).ownBlock)) (n := t208.length) (c := co72) ?_).2.2; exact (qFp (qF HO210 BK212))); (case side2 => exact (Kd.R_reads' HO210.out).2.1); (case side3 => refine (Kd.R_reads' (e := 3) (base := w.heap.size) (ok := fun k_ => ((((some k_ ≠ (v185 : Value).ownBlock ∧ some k_ ≠ (v189 : Value).ownBlock) ∧ some k_ ≠ (.slice Ao52 t198.length co52 : Value).ownBlock) ∧ some k_ ≠ (.slice Ao62 t203.length co62 : Value).ownBlock) ∧ some k_ ≠ (.slice Ao72 t208.length co72 : Value).ownBlock)) (n := t192.length) (c := co42) ?_).2.2; exact (qFp (qF HO194 BK212))); (case side4 => exact (Kd.R_reads' HO194.out).2.1); rintro e w98 ⟨rfl, hb⟩; refine ⟨_, rfl, ?_⟩; have n0_ := Aside0.mk (Kd.R_below (qFp (qF HO186 BK212)) hb); have n1_ := Aside0.mk (Kd.R_below (qFp (qF HO190 BK212)) hb); have n2_ := Aside0.mk (Kd.R_below (qFp (qF HO194 BK212)) hb); have n3_ := Aside0.mk (Kd.R_below (qFp (qF HO200 BK212)) hb); have n4_ := Aside0.mk (Kd.R_below (qFp (qF HO205 BK212)) hb); have n5_ := Aside0.mk (Kd.R_below (qFp (qF HO210 BK212)) hb); have n6_ := uB BK179 hb; have n7_ := uB BK180 hb; have n8_ := uB BK196 hb; have n9_ := uB BK201 hb; have n10_ := uB BK206 hb; have n11_ := Aside0.mk (blk_below (g := gb212) (o := .cells #[.int .i64 t207, .slice Ao72 t208.length co72] 26 (0, 0)) (by (with_reducible repeat (first | refine blk_drewN ?_ _ | refine blk_drew ?_ | refine blk_alloc ?_ _)); refine blk_put (cs := #[.int .i64 t207, .slice none 0 0]) ?_ 1 _ rfl; (with_reducible repeat (first | refine blk_drewN ?_ _ | refine blk_drew ?_ | refine blk_alloc ?_ _)); refine blk_put (cs := #[.int .i64 0, .slice none 0 0]) ?_ 0 _ rfl; (with_reducible repeat (first | refine blk_drewN ?_ _ | refine blk_drew ?_ | refine blk_alloc ?_ _)); exact BK212.out) hb); have n12_ := uD HB hb; clear HO186; clear HO190; clear HO194; clear HO200; clear HO205; clear HO210; clear BK179; clear BK180; clear BK196; clear BK201; clear BK206; clear BK212; clear HB; have HO186 := n0_; have HO190 := n1_; have HO194 := n2_; have HO200 := n3_; have HO205 := n4_; have HO210 := n5_; have BK179 := n6_; have BK180 := n7_; have BK196 := n8_; have BK201 := n9_; have BK206 := n10_; have BK212 := n11_; have HB := n12_; clear n0_ n1_ n2_ n3_ n4_ n5_ n6_ n7_ n8_ n9_ n10_ n11_ n12_; (try clear hb); (try clear hb2); (try clear hk); (try clear hi)))
          go_meet
          case rel => exact ⟨_, (true), (by first | rfl | (simp; done) | (simp [*]; done)), H', ⟨by first | omega | exact Nat.le_refl _⟩, ⟨mR HO194 (fun _ hk => ⟨hk.1.1.2, ⟨hk.1.2, hk.2⟩⟩)⟩, ⟨mR HO200 (fun _ hk => ⟨hk.1.1.2, ⟨hk.1.2, hk.2⟩⟩)⟩, ⟨mR HO205 (fun _ hk => ⟨hk.1.1.2, ⟨hk.1.2, hk.2⟩⟩)⟩, ⟨mR HO210 (fun _ hk => ⟨hk.1.1.2, ⟨hk.1.2, hk.2⟩⟩)⟩, ⟨qB BK179⟩, ⟨qB BK180⟩, ⟨qB BK196⟩, ⟨qB BK201⟩, ⟨qB BK206⟩, ⟨qB BK212⟩, ⟨qD HB⟩⟩
      case rest =>
        clear HC25
        try clear c1
        try clear p2
        try clear c4
        try clear c5
        try clear c6
        try clear c7
        try clear c8
        try clear c9
        try clear c11
        try clear c12
        try clear c13
        try clear c14
        try clear c44
        try clear c48
        try clear c49
        try clear c50
        try clear c53
        try clear c57
        try clear c58
        try clear c59
        try clear c60
        try clear c66
        try clear c67
        try clear c68
        try clear c69
        try clear c70
        try clear c74
        try clear c75
        try clear c76
        try clear c77
        try clear c78
        try clear c79
        try clear c81
        try clear c82
        try clear c83
        try clear c84
        try clear c87
        try clear c88
        try clear c89
        try clear c90
        try clear c91
        try clear c93
        try clear c94
        try clear c95
        try clear c96
        try clear hcz45_0
        try clear hcz45_1
        try clear hcz51_0
        try clear hcz51_1
        try clear hcz54_0
        try clear hcz54_1
        try clear hcz61_0
        try clear hcz61_1
        try clear hcz63_0
        try clear hcz63_1
        try clear hcz71_0
        try clear hcz71_1
        try clear hcz80_0
        try clear hcz80_1
        try clear hcz85_0
        try clear hcz85_1
        try clear hcz92_0
        try clear hcz92_1
        try clear hcz97_0
        try clear hcz97_1
        try clear hfz45_0
        try clear hfz45_1
        try clear hfz51_0
        try clear hfz51_1
        try clear hfz54_0
        try clear hfz54_1
        try clear hfz61_0
        try clear hfz61_1
        try clear hfz63_0
        try clear hfz63_1
        try clear hfz71_0
        try clear hfz71_1
        try clear hfz80_0
        try clear hfz80_1
        try clear hfz85_0
        try clear hfz85_1
        try clear hfz92_0
        try clear hfz92_1
        try clear hfz97_0
        try clear hfz97_1
        obtain ⟨kq, x53_24, rfl, HA, HJ24, HO_197001, HO_202001, HO_207001, HO_213001, BK179, BK180, BK196, BK201, BK206, BK212, HB⟩ := hcut
        cases kq with
        | zero => exact absurd HA.out (by simp [laws_FnExactBesideLadders.j0])
        | succ kj24 =>
          have H := HA.out
          clear HA
          simp only [laws_FnExactBesideLadders.j0] at H
          by_cases c99 : x53_24 = true
          · subst c99
            have H1 : (some false) = some r := by rw [if_pos rfl] at H; exact H
            clear H
            have H := H1
            clear H1
            obtain rfl := Option.some.inj H
            go_wp2
            go_ret
            exact ⟨by first | rfl | (simp [errW_none, errW_some] <;> rfl) | (simp [*, errW_none, errW_some] <;> rfl), qD HB⟩
          · replace c99 := Bool.eq_false_iff.mpr c99
            subst c99
            have H1 : ((laws_toLadder.f kj24 a0_0 l0_1).bind fun bt214 => ((laws_eqLadder.f kj24 t197 t198 bt214.1 bt214.2).bind fun t218 => (if t218 = true then ((laws_toLadder.f kj24 a1_0 l1_1).bind fun bt219 => ((laws_eqLadder.f kj24 t202 t203 bt219.1 bt219.2).bind fun t223 => (if t223 = true then ((laws_markLadder.f kj24 t197 t198 1).bind fun bt224 => ((laws_markLadder.f kj24 t202 t203 bt224.1).bind fun bt226 => (if bt226.1 < 0 then (laws_FnExactBesideLadders.j1 kj24 t195 true a0_0 l0_1 a1_0 l1_1 t191 t192 t207 t208) else ((laws_eqLadder.f kj24 t207 t208 t191 t192).bind fun t228 => (if t228 = true then (laws_FnExactBesideLadders.j1 kj24 t195 (t211 != t195) a0_0 l0_1 a1_0 l1_1 t191 t192 t207 t208) else (laws_FnExactBesideLadders.j1 kj24 t195 true a0_0 l0_1 a1_0 l1_1 t191 t192 t207 t208)))))) else (some false)))) else (some false)))) = some r := by rw [if_neg (show ¬ (false = true) by decide)] at H; exact H
            clear H
            have H := H1
            clear H1
            replace H := Option.bind_eq_some_iff.mp H
            obtain ⟨⟨t214, t215⟩, A1000, H⟩ := H
            replace H : ((laws_eqLadder.f kj24 t197 t198 t214 t215).bind fun t218 => (if t218 = true then ((laws_toLadder.f kj24 a1_0 l1_1).bind fun bt219 => ((laws_eqLadder.f kj24 t202 t203 bt219.1 bt219.2).bind fun t223 => (if t223 = true then ((laws_markLadder.f kj24 t197 t198 1).bind fun bt224 => ((laws_markLadder.f kj24 t202 t203 bt224.1).bind fun bt226 => (if bt226.1 < 0 then (laws_FnExactBesideLadders.j1 kj24 t195 true a0_0 l0_1 a1_0 l1_1 t191 t192 t207 t208) else ((laws_eqLadder.f kj24 t207 t208 t191 t192).bind fun t228 => (if t228 = true then (laws_FnExactBesideLadders.j1 kj24 t195 (t211 != t195) a0_0 l0_1 a1_0 l1_1 t191 t192 t207 t208) else (laws_FnExactBesideLadders.j1 kj24 t195 true a0_0 l0_1 a1_0 l1_1 t191 t192 t207 t208)))))) else (some false)))) else (some false))) = some r := H
            have A100 := Aside0.mk A1000
            clear A1000
            replace H := Option.bind_eq_some_iff.mp H
            obtain ⟨t218, A1010, H⟩ := H
            replace H : (if t218 = true then ((laws_toLadder.f kj24 a1_0 l1_1).bind fun bt219 => ((laws_eqLadder.f kj24 t202 t203 bt219.1 bt219.2).bind fun t223 => (if t223 = true then ((laws_markLadder.f kj24 t197 t198 1).bind fun bt224 => ((laws_markLadder.f kj24 t202 t203 bt224.1).bind fun bt226 => (if bt226.1 < 0 then (laws_FnExactBesideLadders.j1 kj24 t195 true a0_0 l0_1 a1_0 l1_1 t191 t192 t207 t208) else ((laws_eqLadder.f kj24 t207 t208 t191 t192).bind fun t228 => (if t228 = true then (laws_FnExactBesideLadders.j1 kj24 t195 (t211 != t195) a0_0 l0_1 a1_0 l1_1 t191 t192 t207 t208) else (laws_FnExactBesideLadders.j1 kj24 t195 true a0_0 l0_1 a1_0 l1_1 t191 t192 t207 t208)))))) else (some false)))) else (some false)) = some r := H
            have A101 := Aside0.mk A1010
            clear A1010
            by_cases c102 : t218 = true
            · subst c102
              have H1 : ((laws_toLadder.f kj24 a1_0 l1_1).bind fun bt219 => ((laws_eqLadder.f kj24 t202 t203 bt219.1 bt219.2).bind fun t223 => (if t223 = true then ((laws_markLadder.f kj24 t197 t198 1).bind fun bt224 => ((laws_markLadder.f kj24 t202 t203 bt224.1).bind fun bt226 => (if bt226.1 < 0 then (laws_FnExactBesideLadders.j1 kj24 t195 true a0_0 l0_1 a1_0 l1_1 t191 t192 t207 t208) else ((laws_eqLadder.f kj24 t207 t208 t191 t192).bind fun t228 => (if t228 = true then (laws_FnExactBesideLadders.j1 kj24 t195 (t211 != t195) a0_0 l0_1 a1_0 l1_1 t191 t192 t207 t208) else (laws_FnExactBesideLadders.j1 kj24 t195 true a0_0 l0_1 a1_0 l1_1 t191 t192 t207 t208)))))) else (some false)))) = some r := by rw [if_pos rfl] at H; exact H
              clear H
              have H := H1
              clear H1
              replace H := Option.bind_eq_some_iff.mp H
              obtain ⟨⟨t219, t220⟩, A1030, H⟩ := H
              replace H : ((laws_eqLadder.f kj24 t202 t203 t219 t220).bind fun t223 => (if t223 = true then ((laws_markLadder.f kj24 t197 t198 1).bind fun bt224 => ((laws_markLadder.f kj24 t202 t203 bt224.1).bind fun bt226 => (if bt226.1 < 0 then (laws_FnExactBesideLadders.j1 kj24 t195 true a0_0 l0_1 a1_0 l1_1 t191 t192 t207 t208) else ((laws_eqLadder.f kj24 t207 t208 t191 t192).bind fun t228 => (if t228 = true then (laws_FnExactBesideLadders.j1 kj24 t195 (t211 != t195) a0_0 l0_1 a1_0 l1_1 t191 t192 t207 t208) else (laws_FnExactBesideLadders.j1 kj24 t195 true a0_0 l0_1 a1_0 l1_1 t191 t192 t207 t208)))))) else (some false))) = some r := H
              have A103 := Aside0.mk A1030
              clear A1030
              replace H := Option.bind_eq_some_iff.mp H
              obtain ⟨t223, A1040, H⟩ := H
              replace H : (if t223 = true then ((laws_markLadder.f kj24 t197 t198 1).bind fun bt224 => ((laws_markLadder.f kj24 t202 t203 bt224.1).bind fun bt226 => (if bt226.1 < 0 then (laws_FnExactBesideLadders.j1 kj24 t195 true a0_0 l0_1 a1_0 l1_1 t191 t192 t207 t208) else ((laws_eqLadder.f kj24 t207 t208 t191 t192).bind fun t228 => (if t228 = true then (laws_FnExactBesideLadders.j1 kj24 t195 (t211 != t195) a0_0 l0_1 a1_0 l1_1 t191 t192 t207 t208) else (laws_FnExactBesideLadders.j1 kj24 t195 true a0_0 l0_1 a1_0 l1_1 t191 t192 t207 t208)))))) else (some false)) = some r := H
              have A104 := Aside0.mk A1040
              clear A1040
              by_cases c105 : t223 = true
              · subst c105
                have H1 : ((laws_markLadder.f kj24 t197 t198 1).bind fun bt224 => ((laws_markLadder.f kj24 t202 t203 bt224.1).bind fun bt226 => (if bt226.1 < 0 then (laws_FnExactBesideLadders.j1 kj24 t195 true a0_0 l0_1 a1_0 l1_1 t191 t192 t207 t208) else ((laws_eqLadder.f kj24 t207 t208 t191 t192).bind fun t228 => (if t228 = true then (laws_FnExactBesideLadders.j1 kj24 t195 (t211 != t195) a0_0 l0_1 a1_0 l1_1 t191 t192 t207 t208) else (laws_FnExactBesideLadders.j1 kj24 t195 true a0_0 l0_1 a1_0 l1_1 t191 t192 t207 t208)))))) = some r := by rw [if_pos rfl] at H; exact H
                clear H
                have H := H1
                clear H1
                replace H := Option.bind_eq_some_iff.mp H
                obtain ⟨⟨t224, t225⟩, A1060, H⟩ := H
                replace H : ((laws_markLadder.f kj24 t202 t203 t224).bind fun bt226 => (if bt226.1 < 0 then (laws_FnExactBesideLadders.j1 kj24 t195 true a0_0 l0_1 a1_0 l1_1 t191 t192 t207 t208) else ((laws_eqLadder.f kj24 t207 t208 t191 t192).bind fun t228 => (if t228 = true then (laws_FnExactBesideLadders.j1 kj24 t195 (t211 != t195) a0_0 l0_1 a1_0 l1_1 t191 t192 t207 t208) else (laws_FnExactBesideLadders.j1 kj24 t195 true a0_0 l0_1 a1_0 l1_1 t191 t192 t207 t208))))) = some r := H
                have A106 := Aside0.mk A1060
                clear A1060
                replace H := Option.bind_eq_some_iff.mp H
                obtain ⟨⟨t226, t227⟩, A1070, H⟩ := H
                replace H : (if t226 < 0 then (laws_FnExactBesideLadders.j1 kj24 t195 true a0_0 l0_1 a1_0 l1_1 t191 t192 t207 t208) else ((laws_eqLadder.f kj24 t207 t208 t191 t192).bind fun t228 => (if t228 = true then (laws_FnExactBesideLadders.j1 kj24 t195 (t211 != t195) a0_0 l0_1 a1_0 l1_1 t191 t192 t207 t208) else (laws_FnExactBesideLadders.j1 kj24 t195 true a0_0 l0_1 a1_0 l1_1 t191 t192 t207 t208)))) = some r := H
                have A107 := Aside0.mk A1070
                clear A1070
                have HC108 := Aside0.mk H
                clear H
                try go_wp2
                replace HO_197001 := Aside0.mk (Kd.R_drew HO_197001.out)
                replace HO_202001 := Aside0.mk (Kd.R_drew HO_202001.out)
                replace HO_207001 := Aside0.mk (Kd.R_drew HO_207001.out)
                replace HO_213001 := Aside0.mk (Kd.R_drew HO_213001.out)
                replace BK179 := Aside0.mk (blk_drew BK179.out)
                replace BK180 := Aside0.mk (blk_drew BK180.out)
                replace BK196 := Aside0.mk (blk_drew BK196.out)
                replace BK201 := Aside0.mk (blk_drew BK201.out)
                replace BK206 := Aside0.mk (blk_drew BK206.out)
                replace BK212 := Aside0.mk (blk_drew BK212.out)
                replace HB := Aside0.mk (below_drew1 HB.out)
                refine start_ (n := 5) (S := fun w' => w'.cell? ⟨gb201, 0, none⟩ = some (.int .i64 t197) ∧ w'.cell? ⟨gb201, 1, none⟩ = some (.slice Ao52 t198.length co52) ∧ w'.cell? ⟨gb179, 0, none⟩ = some (.int .i64 a0_0) ∧ w'.cell? ⟨gb179, 1, none⟩ = some (.slice A0_1 l0_1.length c0_1)) (ds := []) #[false, false, false, false, false] (by kernel_rfl) rfl rfl ⟨cl BK201 0, cl BK201 1, cl BK179 0, cl BK179 1⟩ (fun hHeld => ?_)
                generalize wc.drew = w109 at HO_197001 HO_202001 HO_207001 HO_213001 BK179 BK180 BK196 BK201 BK206 BK212 HB hHeld ⊢
                refine take_ (i := 0) (N := some 54) (v := ?_) (a' := ?_) #[true, false, false, false, false] rfl rfl (by kernel_rfl) (fun _ _ _ h => h) (Or.inl ⟨by rfl, ?_⟩) hHeld ?_ ?_
                rotate_left
                · rintro w' ⟨s0, s1, s2, s3⟩
                  go_simp
                  with_reducible rfl
                rotate_left
                · simp only [Act.put, List.setIfInBounds_toArray, List.set_cons_zero, List.set_cons_succ, i64_w, i32_w]
                  rfl
                refine take_ (i := 1) (N := some 55) (v := ?_) (a' := ?_) #[true, true, false, false, false] rfl rfl (by kernel_rfl) (fun _ _ _ h => h) (Or.inl ⟨by rfl, ?_⟩) hHeld ?_ ?_
                rotate_left
                · rintro w' ⟨s0, s1, s2, s3⟩
                  go_simp
                  with_reducible rfl
                rotate_left
                · simp only [Act.put, List.setIfInBounds_toArray, List.set_cons_zero, List.set_cons_succ, i64_w, i32_w]
                  rfl
                refine one_ (i := 2) (N := some 56) #[true, true, true, false, false] rfl rfl (by kernel_rfl) (by decide) (fun K hK => ?_)
                refine gt Try.func12 #[.agg #[.int .i64 a0_0, .slice A0_1 l0_1.length c0_1]] ?_
                with_reducible refine (laws_toLadder.calls kj24 a0_0 _ _ l0_1 t214 t215 _ ?side1 ?side2 A100.out).mono ?_
                (case side1 => exact qC (Kd.C_below HR0_1.out HB.out))
                (case side2 => exact HC0_1.out)
                rintro e w110 ⟨v216, rfl, ho0, hb⟩
                refine ⟨_, rfl, ?_⟩
                have HO217 := Aside0.mk (Kd.R_lower (Kd.R_new' (Kd.R_new' (Kd.R_new' (Kd.R_new' ho0 (Kd.R_lt (qR HO_197001))) (Kd.R_lt (qR HO_202001))) (Kd.R_lt (qR HO_207001))) (Kd.R_lt (qR HO_213001))) (below_size (qD HB)))
                replace HO_197001 := eR HO_197001 ho0 hb
                replace HO_202001 := eR HO_202001 ho0 hb
                replace HO_207001 := eR HO_207001 ho0 hb
                replace HO_213001 := eR HO_213001 ho0 hb
                replace BK179 := uB BK179 hb
                replace BK180 := uB BK180 hb
                replace BK196 := uB BK196 hb
                replace BK201 := uB BK201 hb
                replace BK206 := uB BK206 hb
                replace BK212 := uB BK212 hb
                replace HB := uD HB hb
                (try clear hb)
                (try clear hb2)
                (try clear hk)
                (try clear hi)
                (try clear ho0)
                obtain ⟨Ao111, co111, eo111⟩ := Kd.R_slice HO217.out
                (first | subst eo111 | (injection eo111 with f1_ f2_ f3_; have f4_ := f1_.symm; have f5_ := f3_.symm; clear f1_ f2_ f3_; subst f4_; subst f5_))
                refine hK.out _ _ ⟨cl BK201 0, cl BK201 1, cl BK179 0, cl BK179 1⟩ (fun hHeld => ?_)
                clear hK K
                refine nm (some 56) ?_
                refine one_ (i := 3) (N := some 57) #[true, true, true, true, false] rfl rfl (by kernel_rfl) (by decide) (fun K hK => ?_)
                refine gt Try.func14 #[.agg #[.int .i64 t197, .slice Ao52 t198.length co52], .agg #[.int .i64 t214, .slice Ao111 t215.length co111]] ?_
                with_reducible refine (laws_eqLadder.calls kj24 t197 _ _ t198 t214 _ _ t215 true _ ?side1 ?side2 ?side3 ?side4 A101.out).mono ?_
                (case side1 => exact qC (Kd.R_reads' HO_202001.out).2.2)
                (case side2 => exact (Kd.R_reads' HO_202001.out).2.1)
                (case side3 => exact qC (Kd.R_reads' HO217.out).2.2)
                (case side4 => exact (Kd.R_reads' HO217.out).2.1)
                rintro e w112 ⟨rfl, hb⟩
                refine ⟨_, rfl, ?_⟩
                replace HO_197001 := uR HO_197001 hb
                replace HO_202001 := uR HO_202001 hb
                replace HO_207001 := uR HO_207001 hb
                replace HO_213001 := uR HO_213001 hb
                replace HO217 := uR HO217 hb
                replace BK179 := uB BK179 hb
                replace BK180 := uB BK180 hb
                replace BK196 := uB BK196 hb
                replace BK201 := uB BK201 hb
                replace BK206 := uB BK206 hb
                replace BK212 := uB BK212 hb
                replace HB := uD HB hb
                (try clear hb)
                (try clear hb2)
                (try clear hk)
                (try clear hi)
                refine hK.out _ _ ⟨cl BK201 0, cl BK201 1, cl BK179 0, cl BK179 1⟩ (fun hHeld => ?_)
                clear hK K
                refine nm (some 57) ?_
                refine pure_ (i := 4) (N := some 58) (v := ?_) (a' := ?_) #[true, true, true, true, true] rfl rfl (by kernel_rfl) (fun _ _ _ h => h) (Or.inl ⟨by rfl, ?_⟩) ?_ ?_
                rotate_left
                · intro w'
                  go_simp
                  with_reducible rfl
                rotate_left
                · simp only [Act.put, List.setIfInBounds_toArray, List.set_cons_zero, List.set_cons_succ, i64_w, i32_w]
                  rfl
                refine done_ (by kernel_rfl) ?_
                try go_wp2
                replace HO_197001 := Aside0.mk (Kd.R_drew HO_197001.out)
                replace HO_202001 := Aside0.mk (Kd.R_drew HO_202001.out)
                replace HO_207001 := Aside0.mk (Kd.R_drew HO_207001.out)
                replace HO_213001 := Aside0.mk (Kd.R_drew HO_213001.out)
                replace HO217 := Aside0.mk (Kd.R_drew HO217.out)
                replace BK179 := Aside0.mk (blk_drew BK179.out)
                replace BK180 := Aside0.mk (blk_drew BK180.out)
                replace BK196 := Aside0.mk (blk_drew BK196.out)
                replace BK201 := Aside0.mk (blk_drew BK201.out)
                replace BK206 := Aside0.mk (blk_drew BK206.out)
                replace BK212 := Aside0.mk (blk_drew BK212.out)
                replace HB := Aside0.mk (below_drew1 HB.out)
                refine start_ (n := 5) (S := fun w' => w'.cell? ⟨gb206, 0, none⟩ = some (.int .i64 t202) ∧ w'.cell? ⟨gb206, 1, none⟩ = some (.slice Ao62 t203.length co62) ∧ w'.cell? ⟨gb180, 0, none⟩ = some (.int .i64 a1_0) ∧ w'.cell? ⟨gb180, 1, none⟩ = some (.slice A1_1 l1_1.length c1_1)) (ds := []) #[false, false, false, false, false] (by kernel_rfl) rfl rfl ⟨cl BK206 0, cl BK206 1, cl BK180 0, cl BK180 1⟩ (fun hHeld => ?_)
                generalize w112.drew = w113 at HO_197001 HO_202001 HO_207001 HO_213001 HO217 BK179 BK180 BK196 BK201 BK206 BK212 HB hHeld ⊢
                refine take_ (i := 0) (N := some 59) (v := ?_) (a' := ?_) #[true, false, false, false, false] rfl rfl (by kernel_rfl) (fun _ _ _ h => h) (Or.inl ⟨by rfl, ?_⟩) hHeld ?_ ?_
                rotate_left
                · rintro w' ⟨s0, s1, s2, s3⟩
                  go_simp
                  with_reducible rfl
                rotate_left
                · simp only [Act.put, List.setIfInBounds_toArray, List.set_cons_zero, List.set_cons_succ, i64_w, i32_w]
                  rfl
                refine take_ (i := 1) (N := some 60) (v := ?_) (a' := ?_) #[true, true, false, false, false] rfl rfl (by kernel_rfl) (fun _ _ _ h => h) (Or.inl ⟨by rfl, ?_⟩) hHeld ?_ ?_
                rotate_left
                · rintro w' ⟨s0, s1, s2, s3⟩
                  go_simp
                  with_reducible rfl
                rotate_left
                · simp only [Act.put, List.setIfInBounds_toArray, List.set_cons_zero, List.set_cons_succ, i64_w, i32_w]
                  rfl
                refine one_ (i := 2) (N := some 61) #[true, true, true, false, false] rfl rfl (by kernel_rfl) (by decide) (fun K hK => ?_)
                refine gt Try.func12 #[.agg #[.int .i64 a1_0, .slice A1_1 l1_1.length c1_1]] ?_
                with_reducible refine (laws_toLadder.calls kj24 a1_0 _ _ l1_1 t219 t220 _ ?side1 ?side2 A103.out).mono ?_
                (case side1 => exact qC (Kd.C_below HR1_1.out HB.out))
                (case side2 => exact HC1_1.out)
                rintro e w114 ⟨v221, rfl, ho0, hb⟩
                refine ⟨_, rfl, ?_⟩
                have HO222 := Aside0.mk (Kd.R_lower (Kd.R_new' (Kd.R_new' (Kd.R_new' (Kd.R_new' (Kd.R_new' ho0 (Kd.R_lt (qR HO_197001))) (Kd.R_lt (qR HO_202001))) (Kd.R_lt (qR HO_207001))) (Kd.R_lt (qR HO_213001))) (Kd.R_lt (qR HO217))) (below_size (qD HB)))
                replace HO_197001 := eR HO_197001 ho0 hb
                replace HO_202001 := eR HO_202001 ho0 hb
                replace HO_207001 := eR HO_207001 ho0 hb
                replace HO_213001 := eR HO_213001 ho0 hb
                replace HO217 := eR HO217 ho0 hb
                replace BK179 := uB BK179 hb
                replace BK180 := uB BK180 hb
                replace BK196 := uB BK196 hb
                replace BK201 := uB BK201 hb
                replace BK206 := uB BK206 hb
                replace BK212 := uB BK212 hb
                replace HB := uD HB hb
                (try clear hb)
                (try clear hb2)
                (try clear hk)
                (try clear hi)
                (try clear ho0)
                obtain ⟨Ao115, co115, eo115⟩ := Kd.R_slice HO222.out
                (first | subst eo115 | (injection eo115 with f1_ f2_ f3_; have f4_ := f1_.symm; have f5_ := f3_.symm; clear f1_ f2_ f3_; subst f4_; subst f5_))
                refine hK.out _ _ ⟨cl BK206 0, cl BK206 1, cl BK180 0, cl BK180 1⟩ (fun hHeld => ?_)
                clear hK K
                refine nm (some 61) ?_
                refine one_ (i := 3) (N := some 62) #[true, true, true, true, false] rfl rfl (by kernel_rfl) (by decide) (fun K hK => ?_)
                refine gt Try.func14 #[.agg #[.int .i64 t202, .slice Ao62 t203.length co62], .agg #[.int .i64 t219, .slice Ao115 t220.length co115]] ?_
                with_reducible refine (laws_eqLadder.calls kj24 t202 _ _ t203 t219 _ _ t220 true _ ?side1 ?side2 ?side3 ?side4 A104.out).mono ?_
                (case side1 => exact qC (Kd.R_reads' HO_207001.out).2.2)
                (case side2 => exact (Kd.R_reads' HO_207001.out).2.1)
                (case side3 => exact qC (Kd.R_reads' HO222.out).2.2)
                (case side4 => exact (Kd.R_reads' HO222.out).2.1)
                rintro e w116 ⟨rfl, hb⟩
                refine ⟨_, rfl, ?_⟩
                replace HO_197001 := uR HO_197001 hb
                replace HO_202001 := uR HO_202001 hb
                replace HO_207001 := uR HO_207001 hb
                replace HO_213001 := uR HO_213001 hb
                replace HO217 := uR HO217 hb
                replace HO222 := uR HO222 hb
                replace BK179 := uB BK179 hb
                replace BK180 := uB BK180 hb
                replace BK196 := uB BK196 hb
                replace BK201 := uB BK201 hb
                replace BK206 := uB BK206 hb
                replace BK212 := uB BK212 hb
                replace HB := uD HB hb
                (try clear hb)
                (try clear hb2)
                (try clear hk)
                (try clear hi)
                refine hK.out _ _ ⟨cl BK206 0, cl BK206 1, cl BK180 0, cl BK180 1⟩ (fun hHeld => ?_)
                clear hK K
                refine nm (some 62) ?_
                refine pure_ (i := 4) (N := some 63) (v := ?_) (a' := ?_) #[true, true, true, true, true] rfl rfl (by kernel_rfl) (fun _ _ _ h => h) (Or.inl ⟨by rfl, ?_⟩) ?_ ?_
                rotate_left
                · intro w'
                  go_simp
                  with_reducible rfl
                rotate_left
                · simp only [Act.put, List.setIfInBounds_toArray, List.set_cons_zero, List.set_cons_succ, i64_w, i32_w]
                  rfl
                refine done_ (by kernel_rfl) ?_
                have hnb117 := NB201_179.out
                have hnc117 := NB179_201.out
                have hnb118 := NB201_180.out
                have hnc118 := NB180_201.out
                have hnb119 := NB201_196.out
                have hnc119 := NB196_201.out
                have hnb120 := NB201_206.out
                have hnc120 := NB206_201.out
                have hnb121 := NB201_212.out
                have hnc121 := NB212_201.out
                have hcz122_0 := cl BK201 0
                have hcz122_1 := cl BK201 1
                have hfz122_0 := blk_frozen BK201.out 0
                have hfz122_1 := blk_frozen BK201.out 1
                go_upto_region 21 with (first | ((with_reducible refine gate_callee (f := 15) rfl ?_); refine gs (some 66) Try.func15 #[.agg #[.int .i64 t197, .slice Ao52 t198.length co52], .int .i64 1] ?_; (with_reducible refine (laws_markLadder.calls kj24 t197 (fun k_ => some k_ = (.slice Ao52 t198.length co52 : Value).ownBlock) (.slice Ao52 t198.length co52) t198 1 t224 t225 w _ ?side1 ?side2 A106.out).mono ?_); (case side1 => repeat (first | (with_reducible first | exact HB.out | apply below_alloc | apply pw_below_drewN | apply below_drew1 | refine below_set ?_ GE179.out | refine below_set ?_ GE180.out | refine below_set ?_ GE196.out | refine below_set ?_ GE201.out | refine below_set ?_ GE206.out | refine below_set ?_ GE212.out) | exact HB.out)); (case side2 => exact Kd.R_tight rfl HO_202001.out); rintro e w123 ⟨rfl, hy0, hb, hkp⟩; refine ⟨_, rfl, ?_⟩; replace HO_197001 := Aside0.mk (Kd.R_mono (ok' := fun k_ => some k_ ≠ (.slice Ao52 t198.length co52 : Value).ownBlock ∧ some k_ ≠ (.slice Ao62 t203.length co62 : Value).ownBlock ∧ some k_ ≠ (.slice Ao72 t208.length co72 : Value).ownBlock ∧ some k_ ≠ (.slice Ao111 t215.length co111 : Value).ownBlock ∧ some k_ ≠ (.slice Ao115 t220.length co115 : Value).ownBlock) (Kd.R_keptB (HO_197001.out) hkp (fun k_ hk_ hs_ => (hk_.1.1.1) hs_)) (fun k_ hk_ => ⟨hk_.1.1.1.1, hk_.1.1.1.2.1, hk_.1.1.1.2.2, hk_.1.1.2, hk_.1.2⟩)); replace HO_207001 := Aside0.mk (Kd.R_mono (ok' := fun k_ => some k_ ≠ (.slice Ao42 t192.length co42 : Value).ownBlock ∧ some k_ ≠ (.slice Ao52 t198.length co52 : Value).ownBlock ∧ some k_ ≠ (.slice Ao72 t208.length co72 : Value).ownBlock ∧ some k_ ≠ (.slice Ao111 t215.length co111 : Value).ownBlock ∧ some k_ ≠ (.slice Ao115 t220.length co115 : Value).ownBlock) (Kd.R_keptB (HO_207001.out) hkp (fun k_ hk_ hs_ => (hk_.1.1.2.1) hs_)) (fun k_ hk_ => ⟨hk_.1.1.1.1, hk_.1.1.1.2.1, hk_.1.1.1.2.2, hk_.1.1.2, hk_.1.2⟩)); replace HO_213001 := Aside0.mk (Kd.R_mono (ok' := fun k_ => some k_ ≠ (.slice Ao42 t192.length co42 : Value).ownBlock ∧ some k_ ≠ (.slice Ao52 t198.length co52 : Value).ownBlock ∧ some k_ ≠ (.slice Ao62 t203.length co62 : Value).ownBlock ∧ some k_ ≠ (.slice Ao111 t215.length co111 : Value).ownBlock ∧ some k_ ≠ (.slice Ao115 t220.length co115 : Value).ownBlock) (Kd.R_keptB (HO_213001.out) hkp (fun k_ hk_ hs_ => (hk_.1.1.2.1) hs_)) (fun k_ hk_ => ⟨hk_.1.1.1.1, hk_.1.1.1.2.1, hk_.1.1.1.2.2, hk_.1.1.2, hk_.1.2⟩)); replace BK179 := Aside0.mk (blk_kept (qB BK179) hkp (fun hs_ => (fun e_ => (Kd.R_ne HO_202001.out BK179.out (by decide)) e_) hs_)); replace BK180 := Aside0.mk (blk_kept (qB BK180) hkp (fun hs_ => (fun e_ => (Kd.R_ne HO_202001.out BK180.out (by decide)) e_) hs_)); replace BK196 := Aside0.mk (blk_kept (qB BK196) hkp (fun hs_ => (fun e_ => (Kd.R_ne HO_202001.out BK196.out (by decide)) e_) hs_)); replace BK201 := Aside0.mk (blk_kept (qB BK201) hkp (fun hs_ => (fun e_ => (Kd.R_ne HO_202001.out BK201.out (by decide)) e_) hs_)); replace BK206 := Aside0.mk (blk_kept (qB BK206) hkp (fun hs_ => (fun e_ => (Kd.R_ne HO_202001.out BK206.out (by decide)) e_) hs_)); replace BK212 := Aside0.mk (blk_kept (qB BK212) hkp (fun hs_ => (fun e_ => (Kd.R_ne HO_202001.out BK212.out (by decide)) e_) hs_)); replace HO_202001 := Aside0.mk (Kd.R_reok rfl hy0 (fun k_ e_ => HO_202001.out.1 k_ e_)); replace HO217 := Aside0.mk (Kd.R_mono (ok' := fun k_ => some k_ ≠ (.slice Ao42 t192.length co42 : Value).ownBlock ∧ some k_ ≠ (.slice Ao52 t198.length co52 : Value).ownBlock ∧ some k_ ≠ (.slice Ao62 t203.length co62 : Value).ownBlock ∧ some k_ ≠ (.slice Ao72 t208.length co72 : Value).ownBlock ∧ some k_ ≠ (.slice Ao115 t220.length co115 : Value).ownBlock) (Kd.R_keptB (HO217.out) hkp (fun k_ hk_ hs_ => (hk_.1.1.1.2) hs_)) (fun k_ hk_ => ⟨hk_.1.1.1.1.1.2, hk_.1.1.1.1.2, hk_.1.1.1.2, hk_.1.1.2, hk_.1.2⟩)); replace HO222 := Aside0.mk (Kd.R_mono (ok' := fun k_ => some k_ ≠ (.slice Ao42 t192.length co42 : Value).ownBlock ∧ some k_ ≠ (.slice Ao52 t198.length co52 : Value).ownBlock ∧ some k_ ≠ (.slice Ao62 t203.length co62 : Value).ownBlock ∧ some k_ ≠ (.slice Ao72 t208.length co72 : Value).ownBlock ∧ some k_ ≠ (.slice Ao111 t215.length co111 : Value).ownBlock) (Kd.R_keptB (HO222.out) hkp (fun k_ hk_ hs_ => (hk_.1.1.1.2) hs_)) (fun k_ hk_ => ⟨hk_.1.1.1.1.1.2, hk_.1.1.1.1.2, hk_.1.1.1.2, hk_.1.1.2, hk_.1.2⟩)); replace HB := Aside0.mk (hb); (try clear hb); (try clear hkp); (try clear hy0); have hnb124 := NB206_179.out; have hnc124 := NB179_206.out; have hnb125 := NB206_180.out; have hnc125 := NB180_206.out; have hnb126 := NB206_196.out; have hnc126 := NB196_206.out; have hnb127 := NB206_212.out; have hnc127 := NB212_206.out; have hcz128_0 := cl BK206 0; have hcz128_1 := cl BK206 1; have hfz128_0 := blk_frozen BK206.out 0; have hfz128_1 := blk_frozen BK206.out 1) | ((with_reducible refine gate_callee (f := 15) rfl ?_); refine gs (some 69) Try.func15 #[.agg #[.int .i64 t202, .slice Ao62 t203.length co62], .int .i64 t224] ?_; (with_reducible refine (laws_markLadder.calls kj24 t202 (fun k_ => some k_ = (.slice Ao62 t203.length co62 : Value).ownBlock) (.slice Ao62 t203.length co62) t203 t224 t226 t227 w _ ?side1 ?side2 A107.out).mono ?_); (case side1 => repeat (first | (with_reducible first | exact HB.out | apply below_alloc | apply pw_below_drewN | apply below_drew1 | refine below_set ?_ GE179.out | refine below_set ?_ GE180.out | refine below_set ?_ GE196.out | refine below_set ?_ GE201.out | refine below_set ?_ GE206.out | refine below_set ?_ GE212.out) | exact HB.out)); (case side2 => exact Kd.R_tight rfl HO_207001.out); rintro e w129 ⟨rfl, hy0, hb, hkp⟩; refine ⟨_, rfl, ?_⟩; replace HO_197001 := Aside0.mk (Kd.R_mono (ok' := fun k_ => some k_ ≠ (.slice Ao52 t198.length co52 : Value).ownBlock ∧ some k_ ≠ (.slice Ao62 t203.length co62 : Value).ownBlock ∧ some k_ ≠ (.slice Ao72 t208.length co72 : Value).ownBlock ∧ some k_ ≠ (.slice Ao111 t215.length co111 : Value).ownBlock ∧ some k_ ≠ (.slice Ao115 t220.length co115 : Value).ownBlock) (Kd.R_keptB (HO_197001.out) hkp (fun k_ hk_ hs_ => (hk_.2.1) hs_)) (fun k_ hk_ => ⟨hk_.1.1, hk_.1.2.1, hk_.1.2.2.1, hk_.1.2.2.2.1, hk_.1.2.2.2.2⟩)); replace HO_202001 := Aside0.mk (Kd.R_mono (ok' := fun k_ => some k_ ≠ (.slice Ao42 t192.length co42 : Value).ownBlock ∧ some k_ ≠ (.slice Ao62 t203.length co62 : Value).ownBlock ∧ some k_ ≠ (.slice Ao72 t208.length co72 : Value).ownBlock ∧ some k_ ≠ (.slice Ao111 t215.length co111 : Value).ownBlock ∧ some k_ ≠ (.slice Ao115 t220.length co115 : Value).ownBlock) (Kd.R_keptB (HO_202001.out) hkp (fun k_ hk_ hs_ => (hk_.1.1.2.1) hs_)) (fun k_ hk_ => ⟨hk_.1.1.1.1, hk_.1.1.1.2.1, hk_.1.1.1.2.2, hk_.1.1.2, hk_.1.2⟩)); replace HO_213001 := Aside0.mk (Kd.R_mono (ok' := fun k_ => some k_ ≠ (.slice Ao42 t192.length co42 : Value).ownBlock ∧ some k_ ≠ (.slice Ao52 t198.length co52 : Value).ownBlock ∧ some k_ ≠ (.slice Ao62 t203.length co62 : Value).ownBlock ∧ some k_ ≠ (.slice Ao111 t215.length co111 : Value).ownBlock ∧ some k_ ≠ (.slice Ao115 t220.length co115 : Value).ownBlock) (Kd.R_keptB (HO_213001.out) hkp (fun k_ hk_ hs_ => (hk_.2.2.1) hs_)) (fun k_ hk_ => ⟨hk_.1.1, hk_.1.2.1, hk_.1.2.2.1, hk_.1.2.2.2.1, hk_.1.2.2.2.2⟩)); replace BK179 := Aside0.mk (blk_kept (qB BK179) hkp (fun hs_ => (fun e_ => (Kd.R_ne HO_207001.out BK179.out (by decide)) e_) hs_)); replace BK180 := Aside0.mk (blk_kept (qB BK180) hkp (fun hs_ => (fun e_ => (Kd.R_ne HO_207001.out BK180.out (by decide)) e_) hs_)); replace BK196 := Aside0.mk (blk_kept (qB BK196) hkp (fun hs_ => (fun e_ => (Kd.R_ne HO_207001.out BK196.out (by decide)) e_) hs_)); replace BK201 := Aside0.mk (blk_kept (qB BK201) hkp (fun hs_ => (fun e_ => (Kd.R_ne HO_207001.out BK201.out (by decide)) e_) hs_)); replace BK206 := Aside0.mk (blk_kept (qB BK206) hkp (fun hs_ => (fun e_ => (Kd.R_ne HO_207001.out BK206.out (by decide)) e_) hs_)); replace BK212 := Aside0.mk (blk_kept (qB BK212) hkp (fun hs_ => (fun e_ => (Kd.R_ne HO_207001.out BK212.out (by decide)) e_) hs_)); replace HO_207001 := Aside0.mk (Kd.R_reok rfl hy0 (fun k_ e_ => HO_207001.out.1 k_ e_)); replace HO217 := Aside0.mk (Kd.R_mono (ok' := fun k_ => some k_ ≠ (.slice Ao42 t192.length co42 : Value).ownBlock ∧ some k_ ≠ (.slice Ao52 t198.length co52 : Value).ownBlock ∧ some k_ ≠ (.slice Ao62 t203.length co62 : Value).ownBlock ∧ some k_ ≠ (.slice Ao72 t208.length co72 : Value).ownBlock ∧ some k_ ≠ (.slice Ao115 t220.length co115 : Value).ownBlock) (Kd.R_keptB (HO217.out) hkp (fun k_ hk_ hs_ => (hk_.2.2.1) hs_)) (fun k_ hk_ => ⟨hk_.1.1, hk_.1.2.1, hk_.1.2.2.1, hk_.1.2.2.2.1, hk_.1.2.2.2.2⟩)); replace HO222 := Aside0.mk (Kd.R_mono (ok' := fun k_ => some k_ ≠ (.slice Ao42 t192.length co42 : Value).ownBlock ∧ some k_ ≠ (.slice Ao52 t198.length co52 : Value).ownBlock ∧ some k_ ≠ (.slice Ao62 t203.length co62 : Value).ownBlock ∧ some k_ ≠ (.slice Ao72 t208.length co72 : Value).ownBlock ∧ some k_ ≠ (.slice Ao111 t215.length co111 : Value).ownBlock) (Kd.R_keptB (HO222.out) hkp (fun k_ hk_ hs_ => (hk_.2.2.1) hs_)) (fun k_ hk_ => ⟨hk_.1.1, hk_.1.2.1, hk_.1.2.2.1, hk_.1.2.2.2.1, hk_.1.2.2.2.2⟩)); replace HB := Aside0.mk (hb); (try clear hb); (try clear hkp); (try clear hy0)))
                (try simp only [Act.put, List.setIfInBounds_toArray, List.set_cons_zero, List.set_cons_succ])
                go_cut [82] (fun v82 wc => ∃ (kq : Nat) (x82_107 : Bool), v82 = .bool x82_107 ∧ Aside0 (laws_FnExactBesideLadders.j1 kq t195 x82_107 a0_0 l0_1 a1_0 l1_1 t191 t192 t207 t208 = some r) ∧ Aside0 (kq ≤ kj24) ∧ Aside0 (Kd.R (Kd.int .i64) 3 wc w.heap.size (fun k_ => some k_ ≠ ((.slice Ao52 t198.length co52) : Value).ownBlock ∧ some k_ ≠ ((.slice Ao62 t203.length co62) : Value).ownBlock ∧ some k_ ≠ ((.slice Ao72 t208.length co72) : Value).ownBlock) (.slice Ao42 t192.length co42) t192) ∧ Aside0 (Kd.R (Kd.int .i64) 3 wc w.heap.size (fun k_ => some k_ ≠ ((.slice Ao42 t192.length co42) : Value).ownBlock ∧ some k_ ≠ ((.slice Ao62 t203.length co62) : Value).ownBlock ∧ some k_ ≠ ((.slice Ao72 t208.length co72) : Value).ownBlock) (.slice Ao52 t198.length co52) t225) ∧ Aside0 (Kd.R (Kd.int .i64) 3 wc w.heap.size (fun k_ => some k_ ≠ ((.slice Ao42 t192.length co42) : Value).ownBlock ∧ some k_ ≠ ((.slice Ao52 t198.length co52) : Value).ownBlock ∧ some k_ ≠ ((.slice Ao72 t208.length co72) : Value).ownBlock) (.slice Ao62 t203.length co62) t227) ∧ Aside0 (Kd.R (Kd.int .i64) 3 wc w.heap.size (fun k_ => some k_ ≠ ((.slice Ao42 t192.length co42) : Value).ownBlock ∧ some k_ ≠ ((.slice Ao52 t198.length co52) : Value).ownBlock ∧ some k_ ≠ ((.slice Ao62 t203.length co62) : Value).ownBlock) (.slice Ao72 t208.length co72) t208) ∧ Aside0 (wc.heap[gb179]? = some (.cells #[.int .i64 a0_0, (.slice A0_1 l0_1.length c0_1)] 24 (0, 0))) ∧ Aside0 (wc.heap[gb180]? = some (.cells #[.int .i64 a1_0, (.slice A1_1 l1_1.length c1_1)] 24 (0, 0))) ∧ Aside0 (wc.heap[gb196]? = some (.cells #[.int .i64 t191, (.slice Ao42 t192.length co42)] 26 (0, 0))) ∧ Aside0 (wc.heap[gb201]? = some (.cells #[.int .i64 t197, (.slice Ao52 t198.length co52)] 26 (0, 0))) ∧ Aside0 (wc.heap[gb206]? = some (.cells #[.int .i64 t202, (.slice Ao62 t203.length co62)] 26 (0, 0))) ∧ Aside0 (wc.heap[gb212]? = some (.cells #[.int .i64 t207, (.slice Ao72 t208.length co72)] 26 (0, 0))) ∧ Aside0 (Below w.heap.size w wc))
                case first =>
                  have H := HC108.out
                  clear HC108
                  by_cases c130 : t226 < 0
                  · rw [if_pos c130] at H
                    have c130b0 : decide (t226 < 0) = true := decide_eq_true c130
                    clear c130
                    (first | rw [c130b0] | (simp only [i64_w, i32_w]; rw [c130b0]) | skip)
                    have H' := Aside0.mk H
                    clear H
                    go_wp2
                    go_meet
                    case rel => exact ⟨_, (true), (by first | rfl | (simp; done) | (simp [*]; done)), H', ⟨by have := HJ24.out; first | omega | exact Nat.le_refl _⟩, ⟨mR HO_197001 (fun _ hk => ⟨hk.1, ⟨hk.2.1, hk.2.2.1⟩⟩)⟩, ⟨mR HO_202001 (fun _ hk => ⟨hk.1, ⟨hk.2.1, hk.2.2.1⟩⟩)⟩, ⟨mR HO_207001 (fun _ hk => ⟨hk.1, ⟨hk.2.1, hk.2.2.1⟩⟩)⟩, ⟨mR HO_213001 (fun _ hk => ⟨hk.1, ⟨hk.2.1, hk.2.2.1⟩⟩)⟩, ⟨qB BK179⟩, ⟨qB BK180⟩, ⟨qB BK196⟩, ⟨qB BK201⟩, ⟨qB BK206⟩, ⟨qB BK212⟩, ⟨qD HB⟩⟩
                  · rw [if_neg c130] at H
                    have c130b0 : decide (t226 < 0) = false := decide_eq_false c130
                    clear c130
                    (first | rw [c130b0] | (simp only [i64_w, i32_w]; rw [c130b0]) | skip)
                    replace H := Option.bind_eq_some_iff.mp H
                    obtain ⟨t228, A1310, H⟩ := H
                    replace H : (if t228 = true then (laws_FnExactBesideLadders.j1 kj24 t195 (t211 != t195) a0_0 l0_1 a1_0 l1_1 t191 t192 t207 t208) else (laws_FnExactBesideLadders.j1 kj24 t195 true a0_0 l0_1 a1_0 l1_1 t191 t192 t207 t208)) = some r := H
                    have A131 := Aside0.mk A1310
                    clear A1310
                    by_cases c132 : t228 = true
                    · subst c132
                      have H1 : (laws_FnExactBesideLadders.j1 kj24 t195 (t211 != t195) a0_0 l0_1 a1_0 l1_1 t191 t192 t207 t208) = some r := by rw [if_pos rfl] at H; exact H
                      clear H
                      have H := H1
                      clear H1
                      have H' := Aside0.mk H
                      clear H
                      have hnb133 := NB212_179.out
                      have hnc133 := NB179_212.out
                      have hnb134 := NB212_180.out
                      have hnc134 := NB180_212.out
                      have hnb135 := NB212_196.out
                      have hnc135 := NB196_212.out
                      have hnb136 := NB212_201.out
                      have hnc136 := NB201_212.out
                      have hnb137 := NB212_206.out
                      have hnc137 := NB206_212.out
                      have hcz138_0 := cl BK212 0
                      have hcz138_1 := cl BK212 1
                      have hfz138_0 := blk_frozen BK212.out 0
                      have hfz138_1 := blk_frozen BK212.out 1
                      have hnb139 := NB196_179.out
                      have hnc139 := NB179_196.out
                      have hnb140 := NB196_180.out
                      have hnc140 := NB180_196.out
                      have hnb141 := NB196_201.out
                      have hnc141 := NB201_196.out
                      have hnb142 := NB196_206.out
                      have hnc142 := NB206_196.out
                      have hcz143_0 := cl BK196 0
                      have hcz143_1 := cl BK196 1
                      have hfz143_0 := blk_frozen BK196.out 0
                      have hfz143_1 := blk_frozen BK196.out 1
                      go_wp2_with (first | (go_at_call 14; (with_reducible refine (laws_eqLadder.calls kj24 t207 _ _ t208 t191 _ _ t192 true _ ?side1 ?side2 ?side3 ?side4 A131.out).mono ?_); (case side1 => exact qC (Kd.R_reads' HO_213001.out).2.2); (case side2 => exact (Kd.R_reads' HO_213001.out).2.1); (case side3 => exact qC (Kd.R_reads' HO_197001.out).2.2); (case side4 => exact (Kd.R_reads' HO_197001.out).2.1); rintro e w144 ⟨rfl, hb⟩; replace HO_197001 := uR HO_197001 hb; replace HO_202001 := uR HO_202001 hb; replace HO_207001 := uR HO_207001 hb; replace HO_213001 := uR HO_213001 hb; replace HO217 := uR HO217 hb; replace HO222 := uR HO222 hb; replace BK179 := uB BK179 hb; replace BK180 := uB BK180 hb; replace BK196 := uB BK196 hb; replace BK201 := uB BK201 hb; replace BK206 := uB BK206 hb; replace BK212 := uB BK212 hb; replace HB := uD HB hb; (try clear hb); (try clear hb2); (try clear hk); (try clear hi)))
                      go_meet
                      case rel => exact ⟨_, ((t211 != t195)), (by first | rfl | (simp; done) | (simp [*]; done)), H', ⟨by have := HJ24.out; first | omega | exact Nat.le_refl _⟩, ⟨mR HO_197001 (fun _ hk => ⟨hk.1, ⟨hk.2.1, hk.2.2.1⟩⟩)⟩, ⟨mR HO_202001 (fun _ hk => ⟨hk.1, ⟨hk.2.1, hk.2.2.1⟩⟩)⟩, ⟨mR HO_207001 (fun _ hk => ⟨hk.1, ⟨hk.2.1, hk.2.2.1⟩⟩)⟩, ⟨mR HO_213001 (fun _ hk => ⟨hk.1, ⟨hk.2.1, hk.2.2.1⟩⟩)⟩, ⟨qB BK179⟩, ⟨qB BK180⟩, ⟨qB BK196⟩, ⟨qB BK201⟩, ⟨qB BK206⟩, ⟨qB BK212⟩, ⟨qD HB⟩⟩
                    · replace c132 := Bool.eq_false_iff.mpr c132
                      subst c132
                      have H1 : (laws_FnExactBesideLadders.j1 kj24 t195 true a0_0 l0_1 a1_0 l1_1 t191 t192 t207 t208) = some r := by rw [if_neg (show ¬ (false = true) by decide)] at H; exact H
                      clear H
                      have H := H1
                      clear H1
                      have H' := Aside0.mk H
                      clear H
                      have hnb145 := NB212_179.out
                      have hnc145 := NB179_212.out
                      have hnb146 := NB212_180.out
                      have hnc146 := NB180_212.out
                      have hnb147 := NB212_196.out
                      have hnc147 := NB196_212.out
                      have hnb148 := NB212_201.out
                      have hnc148 := NB201_212.out
                      have hnb149 := NB212_206.out
                      have hnc149 := NB206_212.out
                      have hcz150_0 := cl BK212 0
                      have hcz150_1 := cl BK212 1
                      have hfz150_0 := blk_frozen BK212.out 0
                      have hfz150_1 := blk_frozen BK212.out 1
                      have hnb151 := NB196_179.out
                      have hnc151 := NB179_196.out
                      have hnb152 := NB196_180.out
                      have hnc152 := NB180_196.out
                      have hnb153 := NB196_201.out
                      have hnc153 := NB201_196.out
                      have hnb154 := NB196_206.out
                      have hnc154 := NB206_196.out
                      have hcz155_0 := cl BK196 0
                      have hcz155_1 := cl BK196 1
                      have hfz155_0 := blk_frozen BK196.out 0
                      have hfz155_1 := blk_frozen BK196.out 1
                      go_wp2_with (first | (go_at_call 14; (with_reducible refine (laws_eqLadder.calls kj24 t207 _ _ t208 t191 _ _ t192 false _ ?side1 ?side2 ?side3 ?side4 A131.out).mono ?_); (case side1 => exact qC (Kd.R_reads' HO_213001.out).2.2); (case side2 => exact (Kd.R_reads' HO_213001.out).2.1); (case side3 => exact qC (Kd.R_reads' HO_197001.out).2.2); (case side4 => exact (Kd.R_reads' HO_197001.out).2.1); rintro e w156 ⟨rfl, hb⟩; replace HO_197001 := uR HO_197001 hb; replace HO_202001 := uR HO_202001 hb; replace HO_207001 := uR HO_207001 hb; replace HO_213001 := uR HO_213001 hb; replace HO217 := uR HO217 hb; replace HO222 := uR HO222 hb; replace BK179 := uB BK179 hb; replace BK180 := uB BK180 hb; replace BK196 := uB BK196 hb; replace BK201 := uB BK201 hb; replace BK206 := uB BK206 hb; replace BK212 := uB BK212 hb; replace HB := uD HB hb; (try clear hb); (try clear hb2); (try clear hk); (try clear hi)))
                      go_meet
                      case rel => exact ⟨_, (true), (by first | rfl | (simp; done) | (simp [*]; done)), H', ⟨by have := HJ24.out; first | omega | exact Nat.le_refl _⟩, ⟨mR HO_197001 (fun _ hk => ⟨hk.1, ⟨hk.2.1, hk.2.2.1⟩⟩)⟩, ⟨mR HO_202001 (fun _ hk => ⟨hk.1, ⟨hk.2.1, hk.2.2.1⟩⟩)⟩, ⟨mR HO_207001 (fun _ hk => ⟨hk.1, ⟨hk.2.1, hk.2.2.1⟩⟩)⟩, ⟨mR HO_213001 (fun _ hk => ⟨hk.1, ⟨hk.2.1, hk.2.2.1⟩⟩)⟩, ⟨qB BK179⟩, ⟨qB BK180⟩, ⟨qB BK196⟩, ⟨qB BK201⟩, ⟨qB BK206⟩, ⟨qB BK212⟩, ⟨qD HB⟩⟩
                case rest =>
                  clear HC108
                  try clear c1
                  try clear p2
                  try clear c7
                  try clear c8
                  try clear c9
                  try clear c10
                  try clear c11
                  try clear c12
                  try clear c13
                  try clear c14
                  try clear c15
                  try clear c76
                  try clear c77
                  try clear c78
                  try clear c79
                  try clear c81
                  try clear c82
                  try clear c83
                  try clear c84
                  try clear c87
                  try clear c88
                  try clear c89
                  try clear c90
                  try clear c91
                  try clear c93
                  try clear c94
                  try clear c95
                  try clear c96
                  try clear c99
                  try clear c102
                  try clear c105
                  try clear c117
                  try clear c118
                  try clear c119
                  try clear c120
                  try clear c121
                  try clear c124
                  try clear c125
                  try clear c126
                  try clear c127
                  try clear c130
                  try clear c130b0
                  try clear c132
                  try clear c133
                  try clear c134
                  try clear c135
                  try clear c136
                  try clear c137
                  try clear c139
                  try clear c140
                  try clear c141
                  try clear c142
                  try clear c145
                  try clear c146
                  try clear c147
                  try clear c148
                  try clear c149
                  try clear c151
                  try clear c152
                  try clear c153
                  try clear c154
                  try clear hcz122_0
                  try clear hcz122_1
                  try clear hcz128_0
                  try clear hcz128_1
                  try clear hcz138_0
                  try clear hcz138_1
                  try clear hcz143_0
                  try clear hcz143_1
                  try clear hcz150_0
                  try clear hcz150_1
                  try clear hcz155_0
                  try clear hcz155_1
                  try clear hcz45_0
                  try clear hcz45_1
                  try clear hcz51_0
                  try clear hcz51_1
                  try clear hcz54_0
                  try clear hcz54_1
                  try clear hcz61_0
                  try clear hcz61_1
                  try clear hcz63_0
                  try clear hcz63_1
                  try clear hcz71_0
                  try clear hcz71_1
                  try clear hcz80_0
                  try clear hcz80_1
                  try clear hcz85_0
                  try clear hcz85_1
                  try clear hcz92_0
                  try clear hcz92_1
                  try clear hcz97_0
                  try clear hcz97_1
                  try clear hfz122_0
                  try clear hfz122_1
                  try clear hfz128_0
                  try clear hfz128_1
                  try clear hfz138_0
                  try clear hfz138_1
                  try clear hfz143_0
                  try clear hfz143_1
                  try clear hfz150_0
                  try clear hfz150_1
                  try clear hfz155_0
                  try clear hfz155_1
                  try clear hfz45_0
                  try clear hfz45_1
                  try clear hfz51_0
                  try clear hfz51_1
                  try clear hfz54_0
                  try clear hfz54_1
                  try clear hfz61_0
                  try clear hfz61_1
                  try clear hfz63_0
                  try clear hfz63_1
                  try clear hfz71_0
                  try clear hfz71_1
                  try clear hfz80_0
                  try clear hfz80_1
                  try clear hfz85_0
                  try clear hfz85_1
                  try clear hfz92_0
                  try clear hfz92_1
                  try clear hfz97_0
                  try clear hfz97_1
                  obtain ⟨kq, x82_107, rfl, HA, HJ107, HO_197001, HO_202001, HO_207001, HO_213001, BK179, BK180, BK196, BK201, BK206, BK212, HB⟩ := hcut
                  have hl202001_107 := (Kd.R_reads' HO_202001.out).1
                  rw [hl202001_107] at HO_202001
                  (try simp only [hl202001_107])
                  (try simp only [hl202001_107] at BK179)
                  (try simp only [hl202001_107] at BK180)
                  (try simp only [hl202001_107] at BK196)
                  (try simp only [hl202001_107] at BK201)
                  (try simp only [hl202001_107] at BK206)
                  (try simp only [hl202001_107] at BK212)
                  (try simp only [hl202001_107] at HO_197001)
                  (try simp only [hl202001_107] at HO_207001)
                  (try simp only [hl202001_107] at HO_213001)
                  have hl207001_107 := (Kd.R_reads' HO_207001.out).1
                  rw [hl207001_107] at HO_207001
                  (try simp only [hl207001_107])
                  (try simp only [hl207001_107] at BK179)
                  (try simp only [hl207001_107] at BK180)
                  (try simp only [hl207001_107] at BK196)
                  (try simp only [hl207001_107] at BK201)
                  (try simp only [hl207001_107] at BK206)
                  (try simp only [hl207001_107] at BK212)
                  (try simp only [hl207001_107] at HO_197001)
                  (try simp only [hl207001_107] at HO_202001)
                  (try simp only [hl207001_107] at HO_213001)
                  cases kq with
                  | zero => exact absurd HA.out (by simp [laws_FnExactBesideLadders.j1])
                  | succ kj107 =>
                    have H := HA.out
                    clear HA
                    simp only [laws_FnExactBesideLadders.j1] at H
                    by_cases c157 : x82_107 = true
                    · subst c157
                      have H1 : (some false) = some r := by rw [if_pos rfl] at H; exact H
                      clear H
                      have H := H1
                      clear H1
                      obtain rfl := Option.some.inj H
                      go_wp2
                      go_ret
                      exact ⟨by first | rfl | (simp [errW_none, errW_some] <;> rfl) | (simp [*, errW_none, errW_some] <;> rfl), qD HB⟩
                    · replace c157 := Bool.eq_false_iff.mpr c157
                      subst c157
                      have H1 : ((laws_markLadder.f kj107 t207 t208 1).bind fun bt229 => ((laws_heldLadder.f kj107 t207 bt229.2 1).bind fun t231 => (if t231 < 0 then (some false) else (if t231 = bt229.1 then ((laws_toLadder.f kj107 a0_0 l0_1).bind fun bt232 => ((laws_toLadder.f kj107 a1_0 l1_1).bind fun bt236 => ((impl_BesideLadders.f kj107 bt232.1 bt232.2 bt236.1 bt236.2).bind fun bt240 => ((laws_eqLadder.f kj107 bt240.1 bt240.2.1 t191 t192).bind fun t246 => (if t246 = true then (laws_FnExactBesideLadders.j2 kj107 bt229.1 (bt240.2.2 != t195) t207 bt229.2) else (laws_FnExactBesideLadders.j2 kj107 bt229.1 true t207 bt229.2)))))) else (some false))))) = some r := by rw [if_neg (show ¬ (false = true) by decide)] at H; exact H
                      clear H
                      have H := H1
                      clear H1
                      replace H := Option.bind_eq_some_iff.mp H
                      obtain ⟨⟨t229, t230⟩, A1580, H⟩ := H
                      replace H : ((laws_heldLadder.f kj107 t207 t230 1).bind fun t231 => (if t231 < 0 then (some false) else (if t231 = t229 then ((laws_toLadder.f kj107 a0_0 l0_1).bind fun bt232 => ((laws_toLadder.f kj107 a1_0 l1_1).bind fun bt236 => ((impl_BesideLadders.f kj107 bt232.1 bt232.2 bt236.1 bt236.2).bind fun bt240 => ((laws_eqLadder.f kj107 bt240.1 bt240.2.1 t191 t192).bind fun t246 => (if t246 = true then (laws_FnExactBesideLadders.j2 kj107 t229 (bt240.2.2 != t195) t207 t230) else (laws_FnExactBesideLadders.j2 kj107 t229 true t207 t230)))))) else (some false)))) = some r := H
                      have A158 := Aside0.mk A1580
                      clear A1580
                      replace H := Option.bind_eq_some_iff.mp H
                      obtain ⟨t231, A1590, H⟩ := H
                      replace H : (if t231 < 0 then (some false) else (if t231 = t229 then ((laws_toLadder.f kj107 a0_0 l0_1).bind fun bt232 => ((laws_toLadder.f kj107 a1_0 l1_1).bind fun bt236 => ((impl_BesideLadders.f kj107 bt232.1 bt232.2 bt236.1 bt236.2).bind fun bt240 => ((laws_eqLadder.f kj107 bt240.1 bt240.2.1 t191 t192).bind fun t246 => (if t246 = true then (laws_FnExactBesideLadders.j2 kj107 t229 (bt240.2.2 != t195) t207 t230) else (laws_FnExactBesideLadders.j2 kj107 t229 true t207 t230)))))) else (some false))) = some r := H
                      have A159 := Aside0.mk A1590
                      clear A1590
                      by_cases c160 : t231 < 0
                      · rw [if_pos c160] at H
                        have c160b0 : decide (t231 < 0) = true := decide_eq_true c160
                        clear c160
                        obtain rfl := Option.some.inj H
                        have hnb161 := NB212_179.out
                        have hnc161 := NB179_212.out
                        have hnb162 := NB212_180.out
                        have hnc162 := NB180_212.out
                        have hnb163 := NB212_196.out
                        have hnc163 := NB196_212.out
                        have hnb164 := NB212_201.out
                        have hnc164 := NB201_212.out
                        have hnb165 := NB212_206.out
                        have hnc165 := NB206_212.out
                        have hcz166_0 := cl BK212 0
                        have hcz166_1 := cl BK212 1
                        have hfz166_0 := blk_frozen BK212.out 0
                        have hfz166_1 := blk_frozen BK212.out 1
                        go_wp2_with (first | ((with_reducible refine gate_callee (f := 15) rfl ?_); refine gs (some 85) Try.func15 #[.agg #[.int .i64 t207, .slice Ao72 t208.length co72], .int .i64 1] ?_; (with_reducible refine (laws_markLadder.calls kj107 t207 (fun k_ => some k_ = (.slice Ao72 t208.length co72 : Value).ownBlock) (.slice Ao72 t208.length co72) t208 1 t229 t230 w _ ?side1 ?side2 A158.out).mono ?_); (case side1 => repeat (first | (with_reducible first | exact HB.out | apply below_alloc | apply pw_below_drewN | apply below_drew1 | refine below_set ?_ GE179.out | refine below_set ?_ GE180.out | refine below_set ?_ GE196.out | refine below_set ?_ GE201.out | refine below_set ?_ GE206.out | refine below_set ?_ GE212.out) | exact HB.out)); (case side2 => exact Kd.R_tight rfl HO_213001.out); rintro e w167 ⟨rfl, hy0, hb, hkp⟩; refine ⟨_, rfl, ?_⟩; replace HO_197001 := Aside0.mk (Kd.R_mono (ok' := fun k_ => some k_ ≠ (.slice Ao52 t225.length co52 : Value).ownBlock ∧ some k_ ≠ (.slice Ao62 t227.length co62 : Value).ownBlock ∧ some k_ ≠ (.slice Ao72 t208.length co72 : Value).ownBlock) (Kd.R_keptB (HO_197001.out) hkp (fun k_ hk_ hs_ => (hk_.2.2) hs_)) (fun k_ hk_ => ⟨hk_.1.1, hk_.1.2.1, hk_.1.2.2⟩)); replace HO_202001 := Aside0.mk (Kd.R_mono (ok' := fun k_ => some k_ ≠ (.slice Ao42 t192.length co42 : Value).ownBlock ∧ some k_ ≠ (.slice Ao62 t227.length co62 : Value).ownBlock ∧ some k_ ≠ (.slice Ao72 t208.length co72 : Value).ownBlock) (Kd.R_keptB (HO_202001.out) hkp (fun k_ hk_ hs_ => (hk_.2.2) hs_)) (fun k_ hk_ => ⟨hk_.1.1, hk_.1.2.1, hk_.1.2.2⟩)); replace HO_207001 := Aside0.mk (Kd.R_mono (ok' := fun k_ => some k_ ≠ (.slice Ao42 t192.length co42 : Value).ownBlock ∧ some k_ ≠ (.slice Ao52 t225.length co52 : Value).ownBlock ∧ some k_ ≠ (.slice Ao72 t208.length co72 : Value).ownBlock) (Kd.R_keptB (HO_207001.out) hkp (fun k_ hk_ hs_ => (hk_.2.2) hs_)) (fun k_ hk_ => ⟨hk_.1.1, hk_.1.2.1, hk_.1.2.2⟩)); replace BK179 := Aside0.mk (blk_kept (qB BK179) hkp (fun hs_ => (fun e_ => (Kd.R_ne HO_213001.out BK179.out (by decide)) e_) hs_)); replace BK180 := Aside0.mk (blk_kept (qB BK180) hkp (fun hs_ => (fun e_ => (Kd.R_ne HO_213001.out BK180.out (by decide)) e_) hs_)); replace BK196 := Aside0.mk (blk_kept (qB BK196) hkp (fun hs_ => (fun e_ => (Kd.R_ne HO_213001.out BK196.out (by decide)) e_) hs_)); replace BK201 := Aside0.mk (blk_kept (qB BK201) hkp (fun hs_ => (fun e_ => (Kd.R_ne HO_213001.out BK201.out (by decide)) e_) hs_)); replace BK206 := Aside0.mk (blk_kept (qB BK206) hkp (fun hs_ => (fun e_ => (Kd.R_ne HO_213001.out BK206.out (by decide)) e_) hs_)); replace BK212 := Aside0.mk (blk_kept (qB BK212) hkp (fun hs_ => (fun e_ => (Kd.R_ne HO_213001.out BK212.out (by decide)) e_) hs_)); replace HO_213001 := Aside0.mk (Kd.R_reok rfl hy0 (fun k_ e_ => HO_213001.out.1 k_ e_)); replace HB := Aside0.mk (hb); (try clear hb); (try clear hkp); (try clear hy0); have hcz168_0 := cl BK212 0; have hcz168_1 := cl BK212 1; have hfz168_0 := blk_frozen BK212.out 0; have hfz168_1 := blk_frozen BK212.out 1) | ((with_reducible refine gate_callee (f := 16) rfl ?_); refine goesL_ (some 88) rfl rfl Try.func16 (by kernel_rfl) rfl #[.agg #[.int .i64 t207, .slice Ao72 t230.length co72], .int .i64 1] rfl (by (try simp only [List.map_toArray, List.map_cons, List.map_nil]); first | done | (rw [show t230.length = t208.length from (Kd.R_reads' HO_213001.out).1.symm] <;> rfl) | rfl | (simp only [List.length_drop, List.length_take]; rfl)) ?_; (with_reducible refine (laws_heldLadder.calls kj107 t207 _ _ t230 1 t231 _ ?side1 ?side2 A159.out).mono ?_); (case side1 => exact qC (Kd.R_reads' HO_213001.out).2.2); (case side2 => rw [show t230.length = t208.length from (Kd.R_reads' HO_213001.out).1.symm]; exact (Kd.R_reads' HO_213001.out).2.1); rintro e w169 ⟨rfl, hb⟩; refine ⟨_, rfl, ?_⟩; replace HO_197001 := uR HO_197001 hb; replace HO_202001 := uR HO_202001 hb; replace HO_207001 := uR HO_207001 hb; replace HO_213001 := uR HO_213001 hb; replace BK179 := uB BK179 hb; replace BK180 := uB BK180 hb; replace BK196 := uB BK196 hb; replace BK201 := uB BK201 hb; replace BK206 := uB BK206 hb; replace BK212 := uB BK212 hb; replace HB := uD HB hb; (try clear hb); (try clear hb2); (try clear hk); (try clear hi)))
                        go_ret
                        exact ⟨by first | rfl | (simp [errW_none, errW_some] <;> rfl) | (simp [*, errW_none, errW_some] <;> rfl), qD HB⟩
                      · rw [if_neg c160] at H
                        have c160b0 : decide (t231 < 0) = false := decide_eq_false c160
                        clear c160
                        by_cases c170 : t231 = t229
                        · rw [if_pos c170] at H
                          have c170b0 : (t231 == t229) = true := beq_iff_eq.mpr c170
                          have c170b1 : (t231 != t229) = false := bne_eq_false_iff_eq.mpr c170
                          clear c170
                          replace H := Option.bind_eq_some_iff.mp H
                          obtain ⟨⟨t232, t233⟩, A1710, H⟩ := H
                          replace H : ((laws_toLadder.f kj107 a1_0 l1_1).bind fun bt236 => ((impl_BesideLadders.f kj107 t232 t233 bt236.1 bt236.2).bind fun bt240 => ((laws_eqLadder.f kj107 bt240.1 bt240.2.1 t191 t192).bind fun t246 => (if t246 = true then (laws_FnExactBesideLadders.j2 kj107 t229 (bt240.2.2 != t195) t207 t230) else (laws_FnExactBesideLadders.j2 kj107 t229 true t207 t230))))) = some r := H
                          have A171 := Aside0.mk A1710
                          clear A1710
                          replace H := Option.bind_eq_some_iff.mp H
                          obtain ⟨⟨t236, t237⟩, A1720, H⟩ := H
                          replace H : ((impl_BesideLadders.f kj107 t232 t233 t236 t237).bind fun bt240 => ((laws_eqLadder.f kj107 bt240.1 bt240.2.1 t191 t192).bind fun t246 => (if t246 = true then (laws_FnExactBesideLadders.j2 kj107 t229 (bt240.2.2 != t195) t207 t230) else (laws_FnExactBesideLadders.j2 kj107 t229 true t207 t230)))) = some r := H
                          have A172 := Aside0.mk A1720
                          clear A1720
                          replace H := Option.bind_eq_some_iff.mp H
                          obtain ⟨⟨t240, t241, t244⟩, A1730, H⟩ := H
                          replace H : ((laws_eqLadder.f kj107 t240 t241 t191 t192).bind fun t246 => (if t246 = true then (laws_FnExactBesideLadders.j2 kj107 t229 (t244 != t195) t207 t230) else (laws_FnExactBesideLadders.j2 kj107 t229 true t207 t230))) = some r := H
                          have A173 := Aside0.mk A1730
                          clear A1730
                          have HC174 := Aside0.mk H
                          clear H
                          have hnb175 := NB212_179.out
                          have hnc175 := NB179_212.out
                          have hnb176 := NB212_180.out
                          have hnc176 := NB180_212.out
                          have hnb177 := NB212_196.out
                          have hnc177 := NB196_212.out
                          have hnb178 := NB212_201.out
                          have hnc178 := NB201_212.out
                          have hnb179 := NB212_206.out
                          have hnc179 := NB206_212.out
                          have hcz180_0 := cl BK212 0
                          have hcz180_1 := cl BK212 1
                          have hfz180_0 := blk_frozen BK212.out 0
                          have hfz180_1 := blk_frozen BK212.out 1
                          try go_wp2_with (first | ((with_reducible refine gate_callee (f := 15) rfl ?_); refine gs (some 85) Try.func15 #[.agg #[.int .i64 t207, .slice Ao72 t208.length co72], .int .i64 1] ?_; (with_reducible refine (laws_markLadder.calls kj107 t207 (fun k_ => some k_ = (.slice Ao72 t208.length co72 : Value).ownBlock) (.slice Ao72 t208.length co72) t208 1 t229 t230 w _ ?side1 ?side2 A158.out).mono ?_); (case side1 => repeat (first | (with_reducible first | exact HB.out | apply below_alloc | apply pw_below_drewN | apply below_drew1 | refine below_set ?_ GE179.out | refine below_set ?_ GE180.out | refine below_set ?_ GE196.out | refine below_set ?_ GE201.out | refine below_set ?_ GE206.out | refine below_set ?_ GE212.out) | exact HB.out)); (case side2 => exact Kd.R_tight rfl HO_213001.out); rintro e w181 ⟨rfl, hy0, hb, hkp⟩; refine ⟨_, rfl, ?_⟩; replace HO_197001 := Aside0.mk (Kd.R_mono (ok' := fun k_ => some k_ ≠ (.slice Ao52 t225.length co52 : Value).ownBlock ∧ some k_ ≠ (.slice Ao62 t227.length co62 : Value).ownBlock ∧ some k_ ≠ (.slice Ao72 t208.length co72 : Value).ownBlock) (Kd.R_keptB (HO_197001.out) hkp (fun k_ hk_ hs_ => (hk_.2.2) hs_)) (fun k_ hk_ => ⟨hk_.1.1, hk_.1.2.1, hk_.1.2.2⟩)); replace HO_202001 := Aside0.mk (Kd.R_mono (ok' := fun k_ => some k_ ≠ (.slice Ao42 t192.length co42 : Value).ownBlock ∧ some k_ ≠ (.slice Ao62 t227.length co62 : Value).ownBlock ∧ some k_ ≠ (.slice Ao72 t208.length co72 : Value).ownBlock) (Kd.R_keptB (HO_202001.out) hkp (fun k_ hk_ hs_ => (hk_.2.2) hs_)) (fun k_ hk_ => ⟨hk_.1.1, hk_.1.2.1, hk_.1.2.2⟩)); replace HO_207001 := Aside0.mk (Kd.R_mono (ok' := fun k_ => some k_ ≠ (.slice Ao42 t192.length co42 : Value).ownBlock ∧ some k_ ≠ (.slice Ao52 t225.length co52 : Value).ownBlock ∧ some k_ ≠ (.slice Ao72 t208.length co72 : Value).ownBlock) (Kd.R_keptB (HO_207001.out) hkp (fun k_ hk_ hs_ => (hk_.2.2) hs_)) (fun k_ hk_ => ⟨hk_.1.1, hk_.1.2.1, hk_.1.2.2⟩)); replace BK179 := Aside0.mk (blk_kept (qB BK179) hkp (fun hs_ => (fun e_ => (Kd.R_ne HO_213001.out BK179.out (by decide)) e_) hs_)); replace BK180 := Aside0.mk (blk_kept (qB BK180) hkp (fun hs_ => (fun e_ => (Kd.R_ne HO_213001.out BK180.out (by decide)) e_) hs_)); replace BK196 := Aside0.mk (blk_kept (qB BK196) hkp (fun hs_ => (fun e_ => (Kd.R_ne HO_213001.out BK196.out (by decide)) e_) hs_)); replace BK201 := Aside0.mk (blk_kept (qB BK201) hkp (fun hs_ => (fun e_ => (Kd.R_ne HO_213001.out BK201.out (by decide)) e_) hs_)); replace BK206 := Aside0.mk (blk_kept (qB BK206) hkp (fun hs_ => (fun e_ => (Kd.R_ne HO_213001.out BK206.out (by decide)) e_) hs_)); replace BK212 := Aside0.mk (blk_kept (qB BK212) hkp (fun hs_ => (fun e_ => (Kd.R_ne HO_213001.out BK212.out (by decide)) e_) hs_)); replace HO_213001 := Aside0.mk (Kd.R_reok rfl hy0 (fun k_ e_ => HO_213001.out.1 k_ e_)); replace HB := Aside0.mk (hb); (try clear hb); (try clear hkp); (try clear hy0); have hcz182_0 := cl BK212 0; have hcz182_1 := cl BK212 1; have hfz182_0 := blk_frozen BK212.out 0; have hfz182_1 := blk_frozen BK212.out 1) | ((with_reducible refine gate_callee (f := 16) rfl ?_); refine goesL_ (some 88) rfl rfl Try.func16 (by kernel_rfl) rfl #[.agg #[.int .i64 t207, .slice Ao72 t230.length co72], .int .i64 1] rfl (by (try simp only [List.map_toArray, List.map_cons, List.map_nil]); first | done | (rw [show t230.length = t208.length from (Kd.R_reads' HO_213001.out).1.symm] <;> rfl) | rfl | (simp only [List.length_drop, List.length_take]; rfl)) ?_; (with_reducible refine (laws_heldLadder.calls kj107 t207 _ _ t230 1 t231 _ ?side1 ?side2 A159.out).mono ?_); (case side1 => exact qC (Kd.R_reads' HO_213001.out).2.2); (case side2 => rw [show t230.length = t208.length from (Kd.R_reads' HO_213001.out).1.symm]; exact (Kd.R_reads' HO_213001.out).2.1); rintro e w183 ⟨rfl, hb⟩; refine ⟨_, rfl, ?_⟩; replace HO_197001 := uR HO_197001 hb; replace HO_202001 := uR HO_202001 hb; replace HO_207001 := uR HO_207001 hb; replace HO_213001 := uR HO_213001 hb; replace BK179 := uB BK179 hb; replace BK180 := uB BK180 hb; replace BK196 := uB BK196 hb; replace BK201 := uB BK201 hb; replace BK206 := uB BK206 hb; replace BK212 := uB BK212 hb; replace HB := uD HB hb; (try clear hb); (try clear hb2); (try clear hk); (try clear hi)))
                          replace HO_197001 := Aside0.mk (Kd.R_drew HO_197001.out)
                          replace HO_202001 := Aside0.mk (Kd.R_drew HO_202001.out)
                          replace HO_207001 := Aside0.mk (Kd.R_drew HO_207001.out)
                          replace HO_213001 := Aside0.mk (Kd.R_drew HO_213001.out)
                          replace BK179 := Aside0.mk (blk_drew BK179.out)
                          replace BK180 := Aside0.mk (blk_drew BK180.out)
                          replace BK196 := Aside0.mk (blk_drew BK196.out)
                          replace BK201 := Aside0.mk (blk_drew BK201.out)
                          replace BK206 := Aside0.mk (blk_drew BK206.out)
                          replace BK212 := Aside0.mk (blk_drew BK212.out)
                          replace HB := Aside0.mk (below_drew1 HB.out)
                          refine start_ (n := 11) (S := fun w' => w'.cell? ⟨gb179, 0, none⟩ = some (.int .i64 a0_0) ∧ w'.cell? ⟨gb179, 1, none⟩ = some (.slice A0_1 l0_1.length c0_1) ∧ w'.cell? ⟨gb180, 0, none⟩ = some (.int .i64 a1_0) ∧ w'.cell? ⟨gb180, 1, none⟩ = some (.slice A1_1 l1_1.length c1_1)) (ds := []) #[false, false, false, false, false, false, false, false, false, false, false] (by kernel_rfl) rfl rfl ⟨cl BK179 0, cl BK179 1, cl BK180 0, cl BK180 1⟩ (fun hHeld => ?_); refine with_tabW laws_FnExactBesideLadders.tab31 laws_FnExactBesideLadders.bits31 (fun HT_ HW_ => ?_)
                          generalize w183.drew = w184 at HO_197001 HO_202001 HO_207001 HO_213001 BK179 BK180 BK196 BK201 BK206 BK212 HB hHeld ⊢
                          refine tk 0 (some 95) #[true, false, false, false, false, false, false, false, false, false, false] HT_ HW_ hHeld ?_
                          refine tk 2 (some 97) #[true, false, true, false, false, false, false, false, false, false, false] HT_ HW_ hHeld ?_
                          refine join_ (σ := Value × Value × Value × Nat) 2 #[true, true, true, true, true, true, true, true, true, false, false] (fun s_ => [(96, .agg #[.int .i64 t232, s_.1]), (98, .agg #[.int .i64 t236, s_.2.1]), (99, .tuple #[.agg #[.int .i64 t240, s_.2.2.1], .bool t244]), (15, .pointer (some ⟨s_.2.2.2, 0, none⟩)), (94, .tuple #[.agg #[.int .i64 t240, s_.2.2.1], .bool t244]), (100, .agg #[.int .i64 t240, s_.2.2.1]), (101, .bool t244)]) (fun s_ w' => (w'.cell? ⟨gb179, 0, none⟩ = some (.int .i64 a0_0) ∧ w'.cell? ⟨gb179, 1, none⟩ = some (.slice A0_1 l0_1.length c0_1) ∧ w'.cell? ⟨gb180, 0, none⟩ = some (.int .i64 a1_0) ∧ w'.cell? ⟨gb180, 1, none⟩ = some (.slice A1_1 l1_1.length c1_1)) ∧ (Kd.R (Kd.int .i64) 3 w' w.heap.size (fun k_ => some k_ ≠ (s_.2.1 : Value).ownBlock ∧ some k_ ≠ (s_.2.2.1 : Value).ownBlock ∧ some k_ ≠ (.slice Ao42 t192.length co42 : Value).ownBlock ∧ some k_ ≠ (.slice Ao52 t225.length co52 : Value).ownBlock ∧ some k_ ≠ (.slice Ao62 t227.length co62 : Value).ownBlock ∧ some k_ ≠ (.slice Ao72 t208.length co72 : Value).ownBlock) s_.1 t233) ∧ (Kd.R (Kd.int .i64) 3 w' w.heap.size (fun k_ => some k_ ≠ (s_.1 : Value).ownBlock ∧ some k_ ≠ (s_.2.2.1 : Value).ownBlock ∧ some k_ ≠ (.slice Ao42 t192.length co42 : Value).ownBlock ∧ some k_ ≠ (.slice Ao52 t225.length co52 : Value).ownBlock ∧ some k_ ≠ (.slice Ao62 t227.length co62 : Value).ownBlock ∧ some k_ ≠ (.slice Ao72 t208.length co72 : Value).ownBlock) s_.2.1 t237) ∧ (Kd.R (Kd.int .i64) 3 w' w.heap.size (fun k_ => some k_ ≠ (s_.1 : Value).ownBlock ∧ some k_ ≠ (s_.2.1 : Value).ownBlock ∧ some k_ ≠ (.slice Ao42 t192.length co42 : Value).ownBlock ∧ some k_ ≠ (.slice Ao52 t225.length co52 : Value).ownBlock ∧ some k_ ≠ (.slice Ao62 t227.length co62 : Value).ownBlock ∧ some k_ ≠ (.slice Ao72 t208.length co72 : Value).ownBlock) s_.2.2.1 t241) ∧ (Kd.R (Kd.int .i64) 3 w' w.heap.size (fun k_ => some k_ ≠ (s_.1 : Value).ownBlock ∧ some k_ ≠ (s_.2.1 : Value).ownBlock ∧ some k_ ≠ (s_.2.2.1 : Value).ownBlock ∧ some k_ ≠ (.slice Ao52 t225.length co52 : Value).ownBlock ∧ some k_ ≠ (.slice Ao62 t227.length co62 : Value).ownBlock ∧ some k_ ≠ (.slice Ao72 t208.length co72 : Value).ownBlock) (.slice Ao42 t192.length co42) t192) ∧ (Kd.R (Kd.int .i64) 3 w' w.heap.size (fun k_ => some k_ ≠ (s_.1 : Value).ownBlock ∧ some k_ ≠ (s_.2.1 : Value).ownBlock ∧ some k_ ≠ (s_.2.2.1 : Value).ownBlock ∧ some k_ ≠ (.slice Ao42 t192.length co42 : Value).ownBlock ∧ some k_ ≠ (.slice Ao62 t227.length co62 : Value).ownBlock ∧ some k_ ≠ (.slice Ao72 t208.length co72 : Value).ownBlock) (.slice Ao52 t225.length co52) t225) ∧ (Kd.R (Kd.int .i64) 3 w' w.heap.size (fun k_ => some k_ ≠ (s_.1 : Value).ownBlock ∧ some k_ ≠ (s_.2.1 : Value).ownBlock ∧ some k_ ≠ (s_.2.2.1 : Value).ownBlock ∧ some k_ ≠ (.slice Ao42 t192.length co42 : Value).ownBlock ∧ some k_ ≠ (.slice Ao52 t225.length co52 : Value).ownBlock ∧ some k_ ≠ (.slice Ao72 t208.length co72 : Value).ownBlock) (.slice Ao62 t227.length co62) t227) ∧ (Kd.R (Kd.int .i64) 3 w' w.heap.size (fun k_ => some k_ ≠ (s_.1 : Value).ownBlock ∧ some k_ ≠ (s_.2.1 : Value).ownBlock ∧ some k_ ≠ (s_.2.2.1 : Value).ownBlock ∧ some k_ ≠ (.slice Ao42 t192.length co42 : Value).ownBlock ∧ some k_ ≠ (.slice Ao52 t225.length co52 : Value).ownBlock ∧ some k_ ≠ (.slice Ao62 t227.length co62 : Value).ownBlock) (.slice Ao72 t208.length co72) t230) ∧ (w'.heap[gb179]? = some (.cells #[.int .i64 a0_0, .slice A0_1 l0_1.length c0_1] 24 (0, 0))) ∧ (w'.heap[gb180]? = some (.cells #[.int .i64 a1_0, .slice A1_1 l1_1.length c1_1] 24 (0, 0))) ∧ (w'.heap[gb196]? = some (.cells #[.int .i64 t191, .slice Ao42 t192.length co42] 26 (0, 0))) ∧ (w'.heap[gb201]? = some (.cells #[.int .i64 t197, .slice Ao52 t225.length co52] 26 (0, 0))) ∧ (w'.heap[gb206]? = some (.cells #[.int .i64 t202, .slice Ao62 t227.length co62] 26 (0, 0))) ∧ (w'.heap[gb212]? = some (.cells #[.int .i64 t207, .slice Ao72 t208.length co72] 26 (0, 0))) ∧ (w'.heap[s_.2.2.2]? = some (.cells #[.int .i64 0, .slice none 0 0] 26 (0, 0))) ∧ (w.heap.size ≤ s_.2.2.2) ∧ (w.heap.size ≤ s_.2.2.2) ∧ (gb179 ≠ s_.2.2.2) ∧ (s_.2.2.2 ≠ gb179) ∧ (gb180 ≠ s_.2.2.2) ∧ (s_.2.2.2 ≠ gb180) ∧ (gb196 ≠ s_.2.2.2) ∧ (s_.2.2.2 ≠ gb196) ∧ (gb201 ≠ s_.2.2.2) ∧ (s_.2.2.2 ≠ gb201) ∧ (gb206 ≠ s_.2.2.2) ∧ (s_.2.2.2 ≠ gb206) ∧ (gb212 ≠ s_.2.2.2) ∧ (s_.2.2.2 ≠ gb212) ∧ (Below w.heap.size w w')) ?_ ?_
                          rotate_left
                          · intro hCont
                            refine two_ (i := 1) (j := 8) (Ni := some 96) (Nj := some 15) #[true, true, true, false, false, false, false, false, false, false, false] #[true, false, true, false, false, false, false, false, true, false, false] rfl rfl rfl rfl (two_of HT_.out (by kernel_rfl)) (by decide) (by decide) (fun K hK => ?_) (fun K hK => ?_)
                            · skip
                              refine gt Try.func12 #[.agg #[.int .i64 a0_0, .slice A0_1 l0_1.length c0_1]] ?_
                              with_reducible refine (laws_toLadder.calls kj107 a0_0 _ _ l0_1 t232 t233 _ ?side1 ?side2 A171.out).mono ?_
                              (case side1 => exact qC (Kd.C_below HR0_1.out HB.out))
                              (case side2 => exact HC0_1.out)
                              rintro e w185 ⟨v234, rfl, ho0, hb⟩
                              refine ⟨_, rfl, ?_⟩
                              have HO235 := Aside0.mk (Kd.R_lower (Kd.R_new' (Kd.R_new' (Kd.R_new' (Kd.R_new' ho0 (Kd.R_lt (qR HO_197001))) (Kd.R_lt (qR HO_202001))) (Kd.R_lt (qR HO_207001))) (Kd.R_lt (qR HO_213001))) (below_size (qD HB)))
                              replace HO_197001 := eR HO_197001 ho0 hb
                              replace HO_202001 := eR HO_202001 ho0 hb
                              replace HO_207001 := eR HO_207001 ho0 hb
                              replace HO_213001 := eR HO_213001 ho0 hb
                              replace BK179 := uB BK179 hb
                              replace BK180 := uB BK180 hb
                              replace BK196 := uB BK196 hb
                              replace BK201 := uB BK201 hb
                              replace BK206 := uB BK206 hb
                              replace BK212 := uB BK212 hb
                              replace HB := uD HB hb
                              (try clear hb)
                              (try clear hb2)
                              (try clear hk)
                              (try clear hi)
                              (try clear ho0)
                              refine hK.out _ _ ⟨cl BK179 0, cl BK179 1, cl BK180 0, cl BK180 1⟩ (fun hHeld => ?_)
                              clear hK K
                              refine nm (some 96) ?_
                              refine two_ (i := 3) (j := 8) (Ni := some 98) (Nj := some 15) #[true, true, true, true, false, false, false, false, false, false, false] #[true, true, true, false, false, false, false, false, true, false, false] rfl rfl rfl rfl (two_of HT_.out (by kernel_rfl)) (by decide) (by decide) (fun K hK => ?_) (fun K hK => ?_)
                              · skip
                                refine gt Try.func12 #[.agg #[.int .i64 a1_0, .slice A1_1 l1_1.length c1_1]] ?_
                                with_reducible refine (laws_toLadder.calls kj107 a1_0 _ _ l1_1 t236 t237 _ ?side1 ?side2 A172.out).mono ?_
                                (case side1 => exact qC (Kd.C_below HR1_1.out HB.out))
                                (case side2 => exact HC1_1.out)
                                rintro e w186 ⟨v238, rfl, ho0, hb⟩
                                refine ⟨_, rfl, ?_⟩
                                have HO239 := Aside0.mk (Kd.R_lower (Kd.R_new' (Kd.R_new' (Kd.R_new' (Kd.R_new' (Kd.R_new' ho0 (Kd.R_lt (qR HO_197001))) (Kd.R_lt (qR HO_202001))) (Kd.R_lt (qR HO_207001))) (Kd.R_lt (qR HO_213001))) (Kd.R_lt (qR HO235))) (below_size (qD HB)))
                                replace HO_197001 := eR HO_197001 ho0 hb
                                replace HO_202001 := eR HO_202001 ho0 hb
                                replace HO_207001 := eR HO_207001 ho0 hb
                                replace HO_213001 := eR HO_213001 ho0 hb
                                replace HO235 := eR HO235 ho0 hb
                                replace BK179 := uB BK179 hb
                                replace BK180 := uB BK180 hb
                                replace BK196 := uB BK196 hb
                                replace BK201 := uB BK201 hb
                                replace BK206 := uB BK206 hb
                                replace BK212 := uB BK212 hb
                                replace HB := uD HB hb
                                (try clear hb)
                                (try clear hb2)
                                (try clear hk)
                                (try clear hi)
                                (try clear ho0)
                                obtain ⟨Ao187, co187, eo187⟩ := Kd.R_slice HO235.out
                                (first | subst eo187 | (injection eo187 with f1_ f2_ f3_; have f4_ := f1_.symm; have f5_ := f3_.symm; clear f1_ f2_ f3_; subst f4_; subst f5_))
                                obtain ⟨Ao188, co188, eo188⟩ := Kd.R_slice HO239.out
                                (first | subst eo188 | (injection eo188 with f1_ f2_ f3_; have f4_ := f1_.symm; have f5_ := f3_.symm; clear f1_ f2_ f3_; subst f4_; subst f5_))
                                refine hK.out _ _ ⟨cl BK179 0, cl BK179 1, cl BK180 0, cl BK180 1⟩ (fun hHeld => ?_)
                                clear hK K
                                refine nm (some 98) ?_
                                refine two_ (i := 4) (j := 8) (Ni := some 99) (Nj := some 15) #[true, true, true, true, true, false, false, false, false, false, false] #[true, true, true, true, false, false, false, false, true, false, false] rfl rfl rfl rfl (two_of HT_.out (by kernel_rfl)) (by decide) (by decide) (fun K hK => ?_) (fun K hK => ?_)
                                · skip
                                  refine gt Try.func13 #[.agg #[.int .i64 t232, .slice Ao187 t233.length co187], .agg #[.int .i64 t236, .slice Ao188 t237.length co188]] ?_
                                  with_reducible refine (impl_BesideLadders.calls kj107 t232 _ _ t233 t236 _ _ t237 t240 t241 t244 _ ?side1 ?side2 ?side3 ?side4 A173.out).mono ?_
                                  (case side1 => exact qC (Kd.R_reads' HO235.out).2.2)
                                  (case side2 => exact (Kd.R_reads' HO235.out).2.1)
                                  (case side3 => exact qC (Kd.R_reads' HO239.out).2.2)
                                  (case side4 => exact (Kd.R_reads' HO239.out).2.1)
                                  rintro e w189 ⟨v242, rfl, ho0, hb⟩
                                  refine ⟨_, rfl, ?_⟩
                                  have HO243 := Aside0.mk (Kd.R_lower (Kd.R_new' (Kd.R_new' (Kd.R_new' (Kd.R_new' (Kd.R_new' (Kd.R_new' ho0 (Kd.R_lt (qR HO_197001))) (Kd.R_lt (qR HO_202001))) (Kd.R_lt (qR HO_207001))) (Kd.R_lt (qR HO_213001))) (Kd.R_lt (qR HO235))) (Kd.R_lt (qR HO239))) (below_size (qD HB)))
                                  replace HO_197001 := eR HO_197001 ho0 hb
                                  replace HO_202001 := eR HO_202001 ho0 hb
                                  replace HO_207001 := eR HO_207001 ho0 hb
                                  replace HO_213001 := eR HO_213001 ho0 hb
                                  replace HO235 := eR HO235 ho0 hb
                                  replace HO239 := eR HO239 ho0 hb
                                  replace BK179 := uB BK179 hb
                                  replace BK180 := uB BK180 hb
                                  replace BK196 := uB BK196 hb
                                  replace BK201 := uB BK201 hb
                                  replace BK206 := uB BK206 hb
                                  replace BK212 := uB BK212 hb
                                  replace HB := uD HB hb
                                  (try clear hb)
                                  (try clear hb2)
                                  (try clear hk)
                                  (try clear hi)
                                  (try clear ho0)
                                  refine hK.out _ _ ⟨cl BK179 0, cl BK179 1, cl BK180 0, cl BK180 1⟩ (fun hHeld => ?_)
                                  clear hK K
                                  refine nm (some 99) ?_
                                  refine pu 5 (some 94) #[true, true, true, true, true, true, false, false, false, false, false] HT_ ?_
                                  refine pu 6 (some 100) #[true, true, true, true, true, true, true, false, false, false, false] HT_ ?_
                                  refine pu 7 (some 101) #[true, true, true, true, true, true, true, true, false, false, false] HT_ ?_
                                  refine one_ (i := 8) (N := some 15) #[true, true, true, true, true, true, true, true, true, false, false] rfl rfl (one_of HT_.out (by kernel_rfl)) (by decide) (fun K hK => ?_)
                                  refine box_step ?hg (N := 15) ?hd (cs := #[.int .i64 0, .slice none 0 0]) (t := 26) ?hr ?_; (case hd => rfl); (case hg => rfl); (case hr => first | (go_simp; done) | (go_simp; rfl))
                                  intro gb245 hg w190 hbox hb
                                  replace HO_197001 := uR HO_197001 hb
                                  replace HO_202001 := uR HO_202001 hb
                                  replace HO_207001 := uR HO_207001 hb
                                  replace HO_213001 := uR HO_213001 hb
                                  replace HO235 := uR HO235 hb
                                  replace HO239 := uR HO239 hb
                                  replace HO243 := uR HO243 hb
                                  have BK245 := Aside0.mk (hbox)
                                  have GW245 := gE hg HB
                                  have GE245 := gE hg HB
                                  replace HB := uD HB hb
                                  have NB179_245 := nB hg BK179
                                  have NB245_179 := nC hg BK179
                                  replace BK179 := uB BK179 hb
                                  have NB180_245 := nB hg BK180
                                  have NB245_180 := nC hg BK180
                                  replace BK180 := uB BK180 hb
                                  have NB196_245 := nB hg BK196
                                  have NB245_196 := nC hg BK196
                                  replace BK196 := uB BK196 hb
                                  have NB201_245 := nB hg BK201
                                  have NB245_201 := nC hg BK201
                                  replace BK201 := uB BK201 hb
                                  have NB206_245 := nB hg BK206
                                  have NB245_206 := nC hg BK206
                                  replace BK206 := uB BK206 hb
                                  have NB212_245 := nB hg BK212
                                  have NB245_212 := nC hg BK212
                                  replace BK212 := uB BK212 hb
                                  clear hb hbox hg
                                  refine hK.out _ _ ⟨cl BK179 0, cl BK179 1, cl BK180 0, cl BK180 1⟩ (fun hHeld => ?_)
                                  clear hK K
                                  refine nm (some 15) ?_
                                  exact norm_ (by simp only [putAll, Act.put, List.setIfInBounds_toArray, List.set_cons_zero, List.set_cons_succ]) (hCont (.slice Ao187 t233.length co187, .slice Ao188 t237.length co188, v242, gb245) _ ⟨hHeld, (mR HO235 (fun _ hk => ⟨hk.1.2, ⟨hk.2, ⟨hk.1.1.1.1.1.2, ⟨hk.1.1.1.1.2, ⟨hk.1.1.1.2, hk.1.1.2⟩⟩⟩⟩⟩)), (mR HO239 (fun _ hk => ⟨hk.1.2, ⟨hk.2, ⟨hk.1.1.1.1.1.2, ⟨hk.1.1.1.1.2, ⟨hk.1.1.1.2, hk.1.1.2⟩⟩⟩⟩⟩)), (mR HO243 (fun _ hk => ⟨hk.1.2, ⟨hk.2, ⟨hk.1.1.1.1.1.2, ⟨hk.1.1.1.1.2, ⟨hk.1.1.1.2, hk.1.1.2⟩⟩⟩⟩⟩)), (mR HO_197001 (fun _ hk => ⟨hk.1.1.2, ⟨hk.1.2, ⟨hk.2, ⟨hk.1.1.1.1, ⟨hk.1.1.1.2.1, hk.1.1.1.2.2⟩⟩⟩⟩⟩)), (mR HO_202001 (fun _ hk => ⟨hk.1.1.2, ⟨hk.1.2, ⟨hk.2, ⟨hk.1.1.1.1, ⟨hk.1.1.1.2.1, hk.1.1.1.2.2⟩⟩⟩⟩⟩)), (mR HO_207001 (fun _ hk => ⟨hk.1.1.2, ⟨hk.1.2, ⟨hk.2, ⟨hk.1.1.1.1, ⟨hk.1.1.1.2.1, hk.1.1.1.2.2⟩⟩⟩⟩⟩)), (mR HO_213001 (fun _ hk => ⟨hk.1.1.2, ⟨hk.1.2, ⟨hk.2, ⟨hk.1.1.1.1, ⟨hk.1.1.1.2.1, hk.1.1.1.2.2⟩⟩⟩⟩⟩)), (qB BK179), (qB BK180), (qB BK196), (qB BK201), (qB BK206), (qB BK212), (qB BK245), GW245.out, GE245.out, NB179_245.out, NB245_179.out, NB180_245.out, NB245_180.out, NB196_245.out, NB245_196.out, NB201_245.out, NB245_201.out, NB206_245.out, NB245_206.out, NB212_245.out, NB245_212.out, (qD HB)⟩)
                                · skip
                                  refine box_step ?hg (N := 15) ?hd (cs := #[.int .i64 0, .slice none 0 0]) (t := 26) ?hr ?_; (case hd => rfl); (case hg => rfl); (case hr => first | (go_simp; done) | (go_simp; rfl))
                                  intro gb245 hg w187 hbox hb
                                  replace HO_197001 := uR HO_197001 hb
                                  replace HO_202001 := uR HO_202001 hb
                                  replace HO_207001 := uR HO_207001 hb
                                  replace HO_213001 := uR HO_213001 hb
                                  replace HO235 := uR HO235 hb
                                  replace HO239 := uR HO239 hb
                                  have BK245 := Aside0.mk (hbox)
                                  have GW245 := gE hg HB
                                  have GE245 := gE hg HB
                                  replace HB := uD HB hb
                                  have NB179_245 := nB hg BK179
                                  have NB245_179 := nC hg BK179
                                  replace BK179 := uB BK179 hb
                                  have NB180_245 := nB hg BK180
                                  have NB245_180 := nC hg BK180
                                  replace BK180 := uB BK180 hb
                                  have NB196_245 := nB hg BK196
                                  have NB245_196 := nC hg BK196
                                  replace BK196 := uB BK196 hb
                                  have NB201_245 := nB hg BK201
                                  have NB245_201 := nC hg BK201
                                  replace BK201 := uB BK201 hb
                                  have NB206_245 := nB hg BK206
                                  have NB245_206 := nC hg BK206
                                  replace BK206 := uB BK206 hb
                                  have NB212_245 := nB hg BK212
                                  have NB245_212 := nC hg BK212
                                  replace BK212 := uB BK212 hb
                                  clear hb hbox hg
                                  obtain ⟨Ao188, co188, eo188⟩ := Kd.R_slice HO235.out
                                  (first | subst eo188 | (injection eo188 with f1_ f2_ f3_; have f4_ := f1_.symm; have f5_ := f3_.symm; clear f1_ f2_ f3_; subst f4_; subst f5_))
                                  obtain ⟨Ao189, co189, eo189⟩ := Kd.R_slice HO239.out
                                  (first | subst eo189 | (injection eo189 with f1_ f2_ f3_; have f4_ := f1_.symm; have f5_ := f3_.symm; clear f1_ f2_ f3_; subst f4_; subst f5_))
                                  refine hK.out _ _ ⟨cl BK179 0, cl BK179 1, cl BK180 0, cl BK180 1⟩ (fun hHeld => ?_)
                                  clear hK K
                                  refine nm (some 15) ?_
                                  refine one_ (i := 4) (N := some 99) #[true, true, true, true, true, false, false, false, true, false, false] rfl rfl (one_of HT_.out (by kernel_rfl)) (by decide) (fun K hK => ?_)
                                  refine gt Try.func13 #[.agg #[.int .i64 t232, .slice Ao188 t233.length co188], .agg #[.int .i64 t236, .slice Ao189 t237.length co189]] ?_
                                  with_reducible refine (impl_BesideLadders.calls kj107 t232 _ _ t233 t236 _ _ t237 t240 t241 t244 _ ?side1 ?side2 ?side3 ?side4 A173.out).mono ?_
                                  (case side1 => exact qC (Kd.R_reads' HO235.out).2.2)
                                  (case side2 => exact (Kd.R_reads' HO235.out).2.1)
                                  (case side3 => exact qC (Kd.R_reads' HO239.out).2.2)
                                  (case side4 => exact (Kd.R_reads' HO239.out).2.1)
                                  rintro e w190 ⟨v242, rfl, ho0, hb⟩
                                  refine ⟨_, rfl, ?_⟩
                                  have HO243 := Aside0.mk (Kd.R_lower (Kd.R_new' (Kd.R_new' (Kd.R_new' (Kd.R_new' (Kd.R_new' (Kd.R_new' ho0 (Kd.R_lt (qR HO_197001))) (Kd.R_lt (qR HO_202001))) (Kd.R_lt (qR HO_207001))) (Kd.R_lt (qR HO_213001))) (Kd.R_lt (qR HO235))) (Kd.R_lt (qR HO239))) (below_size (qD HB)))
                                  replace HO_197001 := eR HO_197001 ho0 hb
                                  replace HO_202001 := eR HO_202001 ho0 hb
                                  replace HO_207001 := eR HO_207001 ho0 hb
                                  replace HO_213001 := eR HO_213001 ho0 hb
                                  replace HO235 := eR HO235 ho0 hb
                                  replace HO239 := eR HO239 ho0 hb
                                  replace BK179 := uB BK179 hb
                                  replace BK180 := uB BK180 hb
                                  replace BK196 := uB BK196 hb
                                  replace BK201 := uB BK201 hb
                                  replace BK206 := uB BK206 hb
                                  replace BK212 := uB BK212 hb
                                  replace BK245 := uB BK245 hb
                                  replace HB := uD HB hb
                                  (try clear hb)
                                  (try clear hb2)
                                  (try clear hk)
                                  (try clear hi)
                                  (try clear ho0)
                                  refine hK.out _ _ ⟨cl BK179 0, cl BK179 1, cl BK180 0, cl BK180 1⟩ (fun hHeld => ?_)
                                  clear hK K
                                  refine nm (some 99) ?_
                                  refine pu 5 (some 94) #[true, true, true, true, true, true, false, false, true, false, false] HT_ ?_
                                  refine pu 6 (some 100) #[true, true, true, true, true, true, true, false, true, false, false] HT_ ?_
                                  refine pu 7 (some 101) #[true, true, true, true, true, true, true, true, true, false, false] HT_ ?_
                                  exact norm_ (by simp only [putAll, Act.put, List.setIfInBounds_toArray, List.set_cons_zero, List.set_cons_succ]) (hCont (.slice Ao188 t233.length co188, .slice Ao189 t237.length co189, v242, gb245) _ ⟨hHeld, (mR HO235 (fun _ hk => ⟨hk.1.2, ⟨hk.2, ⟨hk.1.1.1.1.1.2, ⟨hk.1.1.1.1.2, ⟨hk.1.1.1.2, hk.1.1.2⟩⟩⟩⟩⟩)), (mR HO239 (fun _ hk => ⟨hk.1.2, ⟨hk.2, ⟨hk.1.1.1.1.1.2, ⟨hk.1.1.1.1.2, ⟨hk.1.1.1.2, hk.1.1.2⟩⟩⟩⟩⟩)), (mR HO243 (fun _ hk => ⟨hk.1.2, ⟨hk.2, ⟨hk.1.1.1.1.1.2, ⟨hk.1.1.1.1.2, ⟨hk.1.1.1.2, hk.1.1.2⟩⟩⟩⟩⟩)), (mR HO_197001 (fun _ hk => ⟨hk.1.1.2, ⟨hk.1.2, ⟨hk.2, ⟨hk.1.1.1.1, ⟨hk.1.1.1.2.1, hk.1.1.1.2.2⟩⟩⟩⟩⟩)), (mR HO_202001 (fun _ hk => ⟨hk.1.1.2, ⟨hk.1.2, ⟨hk.2, ⟨hk.1.1.1.1, ⟨hk.1.1.1.2.1, hk.1.1.1.2.2⟩⟩⟩⟩⟩)), (mR HO_207001 (fun _ hk => ⟨hk.1.1.2, ⟨hk.1.2, ⟨hk.2, ⟨hk.1.1.1.1, ⟨hk.1.1.1.2.1, hk.1.1.1.2.2⟩⟩⟩⟩⟩)), (mR HO_213001 (fun _ hk => ⟨hk.1.1.2, ⟨hk.1.2, ⟨hk.2, ⟨hk.1.1.1.1, ⟨hk.1.1.1.2.1, hk.1.1.1.2.2⟩⟩⟩⟩⟩)), (qB BK179), (qB BK180), (qB BK196), (qB BK201), (qB BK206), (qB BK212), (qB BK245), GW245.out, GE245.out, NB179_245.out, NB245_179.out, NB180_245.out, NB245_180.out, NB196_245.out, NB245_196.out, NB201_245.out, NB245_201.out, NB206_245.out, NB245_206.out, NB212_245.out, NB245_212.out, (qD HB)⟩)
                              · skip
                                refine box_step ?hg (N := 15) ?hd (cs := #[.int .i64 0, .slice none 0 0]) (t := 26) ?hr ?_; (case hd => rfl); (case hg => rfl); (case hr => first | (go_simp; done) | (go_simp; rfl))
                                intro gb245 hg w186 hbox hb
                                replace HO_197001 := uR HO_197001 hb
                                replace HO_202001 := uR HO_202001 hb
                                replace HO_207001 := uR HO_207001 hb
                                replace HO_213001 := uR HO_213001 hb
                                replace HO235 := uR HO235 hb
                                have BK245 := Aside0.mk (hbox)
                                have GW245 := gE hg HB
                                have GE245 := gE hg HB
                                replace HB := uD HB hb
                                have NB179_245 := nB hg BK179
                                have NB245_179 := nC hg BK179
                                replace BK179 := uB BK179 hb
                                have NB180_245 := nB hg BK180
                                have NB245_180 := nC hg BK180
                                replace BK180 := uB BK180 hb
                                have NB196_245 := nB hg BK196
                                have NB245_196 := nC hg BK196
                                replace BK196 := uB BK196 hb
                                have NB201_245 := nB hg BK201
                                have NB245_201 := nC hg BK201
                                replace BK201 := uB BK201 hb
                                have NB206_245 := nB hg BK206
                                have NB245_206 := nC hg BK206
                                replace BK206 := uB BK206 hb
                                have NB212_245 := nB hg BK212
                                have NB245_212 := nC hg BK212
                                replace BK212 := uB BK212 hb
                                clear hb hbox hg
                                refine hK.out _ _ ⟨cl BK179 0, cl BK179 1, cl BK180 0, cl BK180 1⟩ (fun hHeld => ?_)
                                clear hK K
                                refine nm (some 15) ?_
                                refine one_ (i := 3) (N := some 98) #[true, true, true, true, false, false, false, false, true, false, false] rfl rfl (one_of HT_.out (by kernel_rfl)) (by decide) (fun K hK => ?_)
                                refine gt Try.func12 #[.agg #[.int .i64 a1_0, .slice A1_1 l1_1.length c1_1]] ?_
                                with_reducible refine (laws_toLadder.calls kj107 a1_0 _ _ l1_1 t236 t237 _ ?side1 ?side2 A172.out).mono ?_
                                (case side1 => exact qC (Kd.C_below HR1_1.out HB.out))
                                (case side2 => exact HC1_1.out)
                                rintro e w187 ⟨v238, rfl, ho0, hb⟩
                                refine ⟨_, rfl, ?_⟩
                                have HO239 := Aside0.mk (Kd.R_lower (Kd.R_new' (Kd.R_new' (Kd.R_new' (Kd.R_new' (Kd.R_new' ho0 (Kd.R_lt (qR HO_197001))) (Kd.R_lt (qR HO_202001))) (Kd.R_lt (qR HO_207001))) (Kd.R_lt (qR HO_213001))) (Kd.R_lt (qR HO235))) (below_size (qD HB)))
                                replace HO_197001 := eR HO_197001 ho0 hb
                                replace HO_202001 := eR HO_202001 ho0 hb
                                replace HO_207001 := eR HO_207001 ho0 hb
                                replace HO_213001 := eR HO_213001 ho0 hb
                                replace HO235 := eR HO235 ho0 hb
                                replace BK179 := uB BK179 hb
                                replace BK180 := uB BK180 hb
                                replace BK196 := uB BK196 hb
                                replace BK201 := uB BK201 hb
                                replace BK206 := uB BK206 hb
                                replace BK212 := uB BK212 hb
                                replace BK245 := uB BK245 hb
                                replace HB := uD HB hb
                                (try clear hb)
                                (try clear hb2)
                                (try clear hk)
                                (try clear hi)
                                (try clear ho0)
                                obtain ⟨Ao188, co188, eo188⟩ := Kd.R_slice HO235.out
                                (first | subst eo188 | (injection eo188 with f1_ f2_ f3_; have f4_ := f1_.symm; have f5_ := f3_.symm; clear f1_ f2_ f3_; subst f4_; subst f5_))
                                obtain ⟨Ao189, co189, eo189⟩ := Kd.R_slice HO239.out
                                (first | subst eo189 | (injection eo189 with f1_ f2_ f3_; have f4_ := f1_.symm; have f5_ := f3_.symm; clear f1_ f2_ f3_; subst f4_; subst f5_))
                                refine hK.out _ _ ⟨cl BK179 0, cl BK179 1, cl BK180 0, cl BK180 1⟩ (fun hHeld => ?_)
                                clear hK K
                                refine nm (some 98) ?_
                                refine one_ (i := 4) (N := some 99) #[true, true, true, true, true, false, false, false, true, false, false] rfl rfl (one_of HT_.out (by kernel_rfl)) (by decide) (fun K hK => ?_)
                                refine gt Try.func13 #[.agg #[.int .i64 t232, .slice Ao188 t233.length co188], .agg #[.int .i64 t236, .slice Ao189 t237.length co189]] ?_
                                with_reducible refine (impl_BesideLadders.calls kj107 t232 _ _ t233 t236 _ _ t237 t240 t241 t244 _ ?side1 ?side2 ?side3 ?side4 A173.out).mono ?_
                                (case side1 => exact qC (Kd.R_reads' HO235.out).2.2)
                                (case side2 => exact (Kd.R_reads' HO235.out).2.1)
                                (case side3 => exact qC (Kd.R_reads' HO239.out).2.2)
                                (case side4 => exact (Kd.R_reads' HO239.out).2.1)
                                rintro e w190 ⟨v242, rfl, ho0, hb⟩
                                refine ⟨_, rfl, ?_⟩
                                have HO243 := Aside0.mk (Kd.R_lower (Kd.R_new' (Kd.R_new' (Kd.R_new' (Kd.R_new' (Kd.R_new' (Kd.R_new' ho0 (Kd.R_lt (qR HO_197001))) (Kd.R_lt (qR HO_202001))) (Kd.R_lt (qR HO_207001))) (Kd.R_lt (qR HO_213001))) (Kd.R_lt (qR HO235))) (Kd.R_lt (qR HO239))) (below_size (qD HB)))
                                replace HO_197001 := eR HO_197001 ho0 hb
                                replace HO_202001 := eR HO_202001 ho0 hb
                                replace HO_207001 := eR HO_207001 ho0 hb
                                replace HO_213001 := eR HO_213001 ho0 hb
                                replace HO235 := eR HO235 ho0 hb
                                replace HO239 := eR HO239 ho0 hb
                                replace BK179 := uB BK179 hb
                                replace BK180 := uB BK180 hb
                                replace BK196 := uB BK196 hb
                                replace BK201 := uB BK201 hb
                                replace BK206 := uB BK206 hb
                                replace BK212 := uB BK212 hb
                                replace BK245 := uB BK245 hb
                                replace HB := uD HB hb
                                (try clear hb)
                                (try clear hb2)
                                (try clear hk)
                                (try clear hi)
                                (try clear ho0)
                                refine hK.out _ _ ⟨cl BK179 0, cl BK179 1, cl BK180 0, cl BK180 1⟩ (fun hHeld => ?_)
                                clear hK K
                                refine nm (some 99) ?_
                                refine pu 5 (some 94) #[true, true, true, true, true, true, false, false, true, false, false] HT_ ?_
                                refine pu 6 (some 100) #[true, true, true, true, true, true, true, false, true, false, false] HT_ ?_
                                refine pu 7 (some 101) #[true, true, true, true, true, true, true, true, true, false, false] HT_ ?_
                                exact norm_ (by simp only [putAll, Act.put, List.setIfInBounds_toArray, List.set_cons_zero, List.set_cons_succ]) (hCont (.slice Ao188 t233.length co188, .slice Ao189 t237.length co189, v242, gb245) _ ⟨hHeld, (mR HO235 (fun _ hk => ⟨hk.1.2, ⟨hk.2, ⟨hk.1.1.1.1.1.2, ⟨hk.1.1.1.1.2, ⟨hk.1.1.1.2, hk.1.1.2⟩⟩⟩⟩⟩)), (mR HO239 (fun _ hk => ⟨hk.1.2, ⟨hk.2, ⟨hk.1.1.1.1.1.2, ⟨hk.1.1.1.1.2, ⟨hk.1.1.1.2, hk.1.1.2⟩⟩⟩⟩⟩)), (mR HO243 (fun _ hk => ⟨hk.1.2, ⟨hk.2, ⟨hk.1.1.1.1.1.2, ⟨hk.1.1.1.1.2, ⟨hk.1.1.1.2, hk.1.1.2⟩⟩⟩⟩⟩)), (mR HO_197001 (fun _ hk => ⟨hk.1.1.2, ⟨hk.1.2, ⟨hk.2, ⟨hk.1.1.1.1, ⟨hk.1.1.1.2.1, hk.1.1.1.2.2⟩⟩⟩⟩⟩)), (mR HO_202001 (fun _ hk => ⟨hk.1.1.2, ⟨hk.1.2, ⟨hk.2, ⟨hk.1.1.1.1, ⟨hk.1.1.1.2.1, hk.1.1.1.2.2⟩⟩⟩⟩⟩)), (mR HO_207001 (fun _ hk => ⟨hk.1.1.2, ⟨hk.1.2, ⟨hk.2, ⟨hk.1.1.1.1, ⟨hk.1.1.1.2.1, hk.1.1.1.2.2⟩⟩⟩⟩⟩)), (mR HO_213001 (fun _ hk => ⟨hk.1.1.2, ⟨hk.1.2, ⟨hk.2, ⟨hk.1.1.1.1, ⟨hk.1.1.1.2.1, hk.1.1.1.2.2⟩⟩⟩⟩⟩)), (qB BK179), (qB BK180), (qB BK196), (qB BK201), (qB BK206), (qB BK212), (qB BK245), GW245.out, GE245.out, NB179_245.out, NB245_179.out, NB180_245.out, NB245_180.out, NB196_245.out, NB245_196.out, NB201_245.out, NB245_201.out, NB206_245.out, NB245_206.out, NB212_245.out, NB245_212.out, (qD HB)⟩)
                            · skip
                              refine box_step ?hg (N := 15) ?hd (cs := #[.int .i64 0, .slice none 0 0]) (t := 26) ?hr ?_; (case hd => rfl); (case hg => rfl); (case hr => first | (go_simp; done) | (go_simp; rfl))
                              intro gb245 hg w185 hbox hb
                              replace HO_197001 := uR HO_197001 hb
                              replace HO_202001 := uR HO_202001 hb
                              replace HO_207001 := uR HO_207001 hb
                              replace HO_213001 := uR HO_213001 hb
                              have BK245 := Aside0.mk (hbox)
                              have GW245 := gE hg HB
                              have GE245 := gE hg HB
                              replace HB := uD HB hb
                              have NB179_245 := nB hg BK179
                              have NB245_179 := nC hg BK179
                              replace BK179 := uB BK179 hb
                              have NB180_245 := nB hg BK180
                              have NB245_180 := nC hg BK180
                              replace BK180 := uB BK180 hb
                              have NB196_245 := nB hg BK196
                              have NB245_196 := nC hg BK196
                              replace BK196 := uB BK196 hb
                              have NB201_245 := nB hg BK201
                              have NB245_201 := nC hg BK201
                              replace BK201 := uB BK201 hb
                              have NB206_245 := nB hg BK206
                              have NB245_206 := nC hg BK206
                              replace BK206 := uB BK206 hb
                              have NB212_245 := nB hg BK212
                              have NB245_212 := nC hg BK212
                              replace BK212 := uB BK212 hb
                              clear hb hbox hg
                              refine hK.out _ _ ⟨cl BK179 0, cl BK179 1, cl BK180 0, cl BK180 1⟩ (fun hHeld => ?_)
                              clear hK K
                              refine nm (some 15) ?_
                              refine one_ (i := 1) (N := some 96) #[true, true, true, false, false, false, false, false, true, false, false] rfl rfl (one_of HT_.out (by kernel_rfl)) (by decide) (fun K hK => ?_)
                              refine gt Try.func12 #[.agg #[.int .i64 a0_0, .slice A0_1 l0_1.length c0_1]] ?_
                              with_reducible refine (laws_toLadder.calls kj107 a0_0 _ _ l0_1 t232 t233 _ ?side1 ?side2 A171.out).mono ?_
                              (case side1 => exact qC (Kd.C_below HR0_1.out HB.out))
                              (case side2 => exact HC0_1.out)
                              rintro e w186 ⟨v234, rfl, ho0, hb⟩
                              refine ⟨_, rfl, ?_⟩
                              have HO235 := Aside0.mk (Kd.R_lower (Kd.R_new' (Kd.R_new' (Kd.R_new' (Kd.R_new' ho0 (Kd.R_lt (qR HO_197001))) (Kd.R_lt (qR HO_202001))) (Kd.R_lt (qR HO_207001))) (Kd.R_lt (qR HO_213001))) (below_size (qD HB)))
                              replace HO_197001 := eR HO_197001 ho0 hb
                              replace HO_202001 := eR HO_202001 ho0 hb
                              replace HO_207001 := eR HO_207001 ho0 hb
                              replace HO_213001 := eR HO_213001 ho0 hb
                              replace BK179 := uB BK179 hb
                              replace BK180 := uB BK180 hb
                              replace BK196 := uB BK196 hb
                              replace BK201 := uB BK201 hb
                              replace BK206 := uB BK206 hb
                              replace BK212 := uB BK212 hb
                              replace BK245 := uB BK245 hb
                              replace HB := uD HB hb
                              (try clear hb)
                              (try clear hb2)
                              (try clear hk)
                              (try clear hi)
                              (try clear ho0)
                              refine hK.out _ _ ⟨cl BK179 0, cl BK179 1, cl BK180 0, cl BK180 1⟩ (fun hHeld => ?_)
                              clear hK K
                              refine nm (some 96) ?_
                              refine one_ (i := 3) (N := some 98) #[true, true, true, true, false, false, false, false, true, false, false] rfl rfl (one_of HT_.out (by kernel_rfl)) (by decide) (fun K hK => ?_)
                              refine gt Try.func12 #[.agg #[.int .i64 a1_0, .slice A1_1 l1_1.length c1_1]] ?_
                              with_reducible refine (laws_toLadder.calls kj107 a1_0 _ _ l1_1 t236 t237 _ ?side1 ?side2 A172.out).mono ?_
                              (case side1 => exact qC (Kd.C_below HR1_1.out HB.out))
                              (case side2 => exact HC1_1.out)
                              rintro e w187 ⟨v238, rfl, ho0, hb⟩
                              refine ⟨_, rfl, ?_⟩
                              have HO239 := Aside0.mk (Kd.R_lower (Kd.R_new' (Kd.R_new' (Kd.R_new' (Kd.R_new' (Kd.R_new' ho0 (Kd.R_lt (qR HO_197001))) (Kd.R_lt (qR HO_202001))) (Kd.R_lt (qR HO_207001))) (Kd.R_lt (qR HO_213001))) (Kd.R_lt (qR HO235))) (below_size (qD HB)))
                              replace HO_197001 := eR HO_197001 ho0 hb
                              replace HO_202001 := eR HO_202001 ho0 hb
                              replace HO_207001 := eR HO_207001 ho0 hb
                              replace HO_213001 := eR HO_213001 ho0 hb
                              replace HO235 := eR HO235 ho0 hb
                              replace BK179 := uB BK179 hb
                              replace BK180 := uB BK180 hb
                              replace BK196 := uB BK196 hb
                              replace BK201 := uB BK201 hb
                              replace BK206 := uB BK206 hb
                              replace BK212 := uB BK212 hb
                              replace BK245 := uB BK245 hb
                              replace HB := uD HB hb
                              (try clear hb)
                              (try clear hb2)
                              (try clear hk)
                              (try clear hi)
                              (try clear ho0)
                              obtain ⟨Ao188, co188, eo188⟩ := Kd.R_slice HO235.out
                              (first | subst eo188 | (injection eo188 with f1_ f2_ f3_; have f4_ := f1_.symm; have f5_ := f3_.symm; clear f1_ f2_ f3_; subst f4_; subst f5_))
                              obtain ⟨Ao189, co189, eo189⟩ := Kd.R_slice HO239.out
                              (first | subst eo189 | (injection eo189 with f1_ f2_ f3_; have f4_ := f1_.symm; have f5_ := f3_.symm; clear f1_ f2_ f3_; subst f4_; subst f5_))
                              refine hK.out _ _ ⟨cl BK179 0, cl BK179 1, cl BK180 0, cl BK180 1⟩ (fun hHeld => ?_)
                              clear hK K
                              refine nm (some 98) ?_
                              refine one_ (i := 4) (N := some 99) #[true, true, true, true, true, false, false, false, true, false, false] rfl rfl (one_of HT_.out (by kernel_rfl)) (by decide) (fun K hK => ?_)
                              refine gt Try.func13 #[.agg #[.int .i64 t232, .slice Ao188 t233.length co188], .agg #[.int .i64 t236, .slice Ao189 t237.length co189]] ?_
                              with_reducible refine (impl_BesideLadders.calls kj107 t232 _ _ t233 t236 _ _ t237 t240 t241 t244 _ ?side1 ?side2 ?side3 ?side4 A173.out).mono ?_
                              (case side1 => exact qC (Kd.R_reads' HO235.out).2.2)
                              (case side2 => exact (Kd.R_reads' HO235.out).2.1)
                              (case side3 => exact qC (Kd.R_reads' HO239.out).2.2)
                              (case side4 => exact (Kd.R_reads' HO239.out).2.1)
                              rintro e w190 ⟨v242, rfl, ho0, hb⟩
                              refine ⟨_, rfl, ?_⟩
                              have HO243 := Aside0.mk (Kd.R_lower (Kd.R_new' (Kd.R_new' (Kd.R_new' (Kd.R_new' (Kd.R_new' (Kd.R_new' ho0 (Kd.R_lt (qR HO_197001))) (Kd.R_lt (qR HO_202001))) (Kd.R_lt (qR HO_207001))) (Kd.R_lt (qR HO_213001))) (Kd.R_lt (qR HO235))) (Kd.R_lt (qR HO239))) (below_size (qD HB)))
                              replace HO_197001 := eR HO_197001 ho0 hb
                              replace HO_202001 := eR HO_202001 ho0 hb
                              replace HO_207001 := eR HO_207001 ho0 hb
                              replace HO_213001 := eR HO_213001 ho0 hb
                              replace HO235 := eR HO235 ho0 hb
                              replace HO239 := eR HO239 ho0 hb
                              replace BK179 := uB BK179 hb
                              replace BK180 := uB BK180 hb
                              replace BK196 := uB BK196 hb
                              replace BK201 := uB BK201 hb
                              replace BK206 := uB BK206 hb
                              replace BK212 := uB BK212 hb
                              replace BK245 := uB BK245 hb
                              replace HB := uD HB hb
                              (try clear hb)
                              (try clear hb2)
                              (try clear hk)
                              (try clear hi)
                              (try clear ho0)
                              refine hK.out _ _ ⟨cl BK179 0, cl BK179 1, cl BK180 0, cl BK180 1⟩ (fun hHeld => ?_)
                              clear hK K
                              refine nm (some 99) ?_
                              refine pu 5 (some 94) #[true, true, true, true, true, true, false, false, true, false, false] HT_ ?_
                              refine pu 6 (some 100) #[true, true, true, true, true, true, true, false, true, false, false] HT_ ?_
                              refine pu 7 (some 101) #[true, true, true, true, true, true, true, true, true, false, false] HT_ ?_
                              exact norm_ (by simp only [putAll, Act.put, List.setIfInBounds_toArray, List.set_cons_zero, List.set_cons_succ]) (hCont (.slice Ao188 t233.length co188, .slice Ao189 t237.length co189, v242, gb245) _ ⟨hHeld, (mR HO235 (fun _ hk => ⟨hk.1.2, ⟨hk.2, ⟨hk.1.1.1.1.1.2, ⟨hk.1.1.1.1.2, ⟨hk.1.1.1.2, hk.1.1.2⟩⟩⟩⟩⟩)), (mR HO239 (fun _ hk => ⟨hk.1.2, ⟨hk.2, ⟨hk.1.1.1.1.1.2, ⟨hk.1.1.1.1.2, ⟨hk.1.1.1.2, hk.1.1.2⟩⟩⟩⟩⟩)), (mR HO243 (fun _ hk => ⟨hk.1.2, ⟨hk.2, ⟨hk.1.1.1.1.1.2, ⟨hk.1.1.1.1.2, ⟨hk.1.1.1.2, hk.1.1.2⟩⟩⟩⟩⟩)), (mR HO_197001 (fun _ hk => ⟨hk.1.1.2, ⟨hk.1.2, ⟨hk.2, ⟨hk.1.1.1.1, ⟨hk.1.1.1.2.1, hk.1.1.1.2.2⟩⟩⟩⟩⟩)), (mR HO_202001 (fun _ hk => ⟨hk.1.1.2, ⟨hk.1.2, ⟨hk.2, ⟨hk.1.1.1.1, ⟨hk.1.1.1.2.1, hk.1.1.1.2.2⟩⟩⟩⟩⟩)), (mR HO_207001 (fun _ hk => ⟨hk.1.1.2, ⟨hk.1.2, ⟨hk.2, ⟨hk.1.1.1.1, ⟨hk.1.1.1.2.1, hk.1.1.1.2.2⟩⟩⟩⟩⟩)), (mR HO_213001 (fun _ hk => ⟨hk.1.1.2, ⟨hk.1.2, ⟨hk.2, ⟨hk.1.1.1.1, ⟨hk.1.1.1.2.1, hk.1.1.1.2.2⟩⟩⟩⟩⟩)), (qB BK179), (qB BK180), (qB BK196), (qB BK201), (qB BK206), (qB BK212), (qB BK245), GW245.out, GE245.out, NB179_245.out, NB245_179.out, NB180_245.out, NB245_180.out, NB196_245.out, NB245_196.out, NB201_245.out, NB245_201.out, NB206_245.out, NB245_206.out, NB212_245.out, NB245_212.out, (qD HB)⟩)
                          rintro ⟨v234, v238, v242, gb245⟩ w191 ⟨hS_, h0_, h1_, h2_, h3_, h4_, h5_, h6_, h7_, h8_, h9_, h10_, h11_, h12_, h13_, h14_, h15_, h16_, h17_, h18_, h19_, h20_, h21_, h22_, h23_, h24_, h25_, h26_, h27_, h28_⟩
                          have n0_ : Aside0 (Kd.R (Kd.int .i64) 3 w191 w.heap.size (fun k_ => some k_ ≠ (v238 : Value).ownBlock ∧ some k_ ≠ (v242 : Value).ownBlock ∧ some k_ ≠ (.slice Ao42 t192.length co42 : Value).ownBlock ∧ some k_ ≠ (.slice Ao52 t225.length co52 : Value).ownBlock ∧ some k_ ≠ (.slice Ao62 t227.length co62 : Value).ownBlock ∧ some k_ ≠ (.slice Ao72 t208.length co72 : Value).ownBlock) v234 t233) := ⟨h0_⟩
                          have n1_ : Aside0 (Kd.R (Kd.int .i64) 3 w191 w.heap.size (fun k_ => some k_ ≠ (v234 : Value).ownBlock ∧ some k_ ≠ (v242 : Value).ownBlock ∧ some k_ ≠ (.slice Ao42 t192.length co42 : Value).ownBlock ∧ some k_ ≠ (.slice Ao52 t225.length co52 : Value).ownBlock ∧ some k_ ≠ (.slice Ao62 t227.length co62 : Value).ownBlock ∧ some k_ ≠ (.slice Ao72 t208.length co72 : Value).ownBlock) v238 t237) := ⟨h1_⟩
                          have n2_ : Aside0 (Kd.R (Kd.int .i64) 3 w191 w.heap.size (fun k_ => some k_ ≠ (v234 : Value).ownBlock ∧ some k_ ≠ (v238 : Value).ownBlock ∧ some k_ ≠ (.slice Ao42 t192.length co42 : Value).ownBlock ∧ some k_ ≠ (.slice Ao52 t225.length co52 : Value).ownBlock ∧ some k_ ≠ (.slice Ao62 t227.length co62 : Value).ownBlock ∧ some k_ ≠ (.slice Ao72 t208.length co72 : Value).ownBlock) v242 t241) := ⟨h2_⟩
                          have n3_ : Aside0 (Kd.R (Kd.int .i64) 3 w191 w.heap.size (fun k_ => some k_ ≠ (v234 : Value).ownBlock ∧ some k_ ≠ (v238 : Value).ownBlock ∧ some k_ ≠ (v242 : Value).ownBlock ∧ some k_ ≠ (.slice Ao52 t225.length co52 : Value).ownBlock ∧ some k_ ≠ (.slice Ao62 t227.length co62 : Value).ownBlock ∧ some k_ ≠ (.slice Ao72 t208.length co72 : Value).ownBlock) (.slice Ao42 t192.length co42) t192) := ⟨h3_⟩
                          have n4_ : Aside0 (Kd.R (Kd.int .i64) 3 w191 w.heap.size (fun k_ => some k_ ≠ (v234 : Value).ownBlock ∧ some k_ ≠ (v238 : Value).ownBlock ∧ some k_ ≠ (v242 : Value).ownBlock ∧ some k_ ≠ (.slice Ao42 t192.length co42 : Value).ownBlock ∧ some k_ ≠ (.slice Ao62 t227.length co62 : Value).ownBlock ∧ some k_ ≠ (.slice Ao72 t208.length co72 : Value).ownBlock) (.slice Ao52 t225.length co52) t225) := ⟨h4_⟩
                          have n5_ : Aside0 (Kd.R (Kd.int .i64) 3 w191 w.heap.size (fun k_ => some k_ ≠ (v234 : Value).ownBlock ∧ some k_ ≠ (v238 : Value).ownBlock ∧ some k_ ≠ (v242 : Value).ownBlock ∧ some k_ ≠ (.slice Ao42 t192.length co42 : Value).ownBlock ∧ some k_ ≠ (.slice Ao52 t225.length co52 : Value).ownBlock ∧ some k_ ≠ (.slice Ao72 t208.length co72 : Value).ownBlock) (.slice Ao62 t227.length co62) t227) := ⟨h5_⟩
                          have n6_ : Aside0 (Kd.R (Kd.int .i64) 3 w191 w.heap.size (fun k_ => some k_ ≠ (v234 : Value).ownBlock ∧ some k_ ≠ (v238 : Value).ownBlock ∧ some k_ ≠ (v242 : Value).ownBlock ∧ some k_ ≠ (.slice Ao42 t192.length co42 : Value).ownBlock ∧ some k_ ≠ (.slice Ao52 t225.length co52 : Value).ownBlock ∧ some k_ ≠ (.slice Ao62 t227.length co62 : Value).ownBlock) (.slice Ao72 t208.length co72) t230) := ⟨h6_⟩
                          have n7_ : Aside0 (w191.heap[gb179]? = some (.cells #[.int .i64 a0_0, .slice A0_1 l0_1.length c0_1] 24 (0, 0))) := ⟨h7_⟩
                          have n8_ : Aside0 (w191.heap[gb180]? = some (.cells #[.int .i64 a1_0, .slice A1_1 l1_1.length c1_1] 24 (0, 0))) := ⟨h8_⟩
                          have n9_ : Aside0 (w191.heap[gb196]? = some (.cells #[.int .i64 t191, .slice Ao42 t192.length co42] 26 (0, 0))) := ⟨h9_⟩
                          have n10_ : Aside0 (w191.heap[gb201]? = some (.cells #[.int .i64 t197, .slice Ao52 t225.length co52] 26 (0, 0))) := ⟨h10_⟩
                          have n11_ : Aside0 (w191.heap[gb206]? = some (.cells #[.int .i64 t202, .slice Ao62 t227.length co62] 26 (0, 0))) := ⟨h11_⟩
                          have n12_ : Aside0 (w191.heap[gb212]? = some (.cells #[.int .i64 t207, .slice Ao72 t208.length co72] 26 (0, 0))) := ⟨h12_⟩
                          have n13_ : Aside0 (w191.heap[gb245]? = some (.cells #[.int .i64 0, .slice none 0 0] 26 (0, 0))) := ⟨h13_⟩
                          have n14_ : Aside0 (w.heap.size ≤ gb245) := ⟨h14_⟩
                          have n15_ : Aside0 (w.heap.size ≤ gb245) := ⟨h15_⟩
                          have n16_ : Aside0 (gb179 ≠ gb245) := ⟨h16_⟩
                          have n17_ : Aside0 (gb245 ≠ gb179) := ⟨h17_⟩
                          have n18_ : Aside0 (gb180 ≠ gb245) := ⟨h18_⟩
                          have n19_ : Aside0 (gb245 ≠ gb180) := ⟨h19_⟩
                          have n20_ : Aside0 (gb196 ≠ gb245) := ⟨h20_⟩
                          have n21_ : Aside0 (gb245 ≠ gb196) := ⟨h21_⟩
                          have n22_ : Aside0 (gb201 ≠ gb245) := ⟨h22_⟩
                          have n23_ : Aside0 (gb245 ≠ gb201) := ⟨h23_⟩
                          have n24_ : Aside0 (gb206 ≠ gb245) := ⟨h24_⟩
                          have n25_ : Aside0 (gb245 ≠ gb206) := ⟨h25_⟩
                          have n26_ : Aside0 (gb212 ≠ gb245) := ⟨h26_⟩
                          have n27_ : Aside0 (gb245 ≠ gb212) := ⟨h27_⟩
                          have n28_ : Aside0 (Below w.heap.size w w191) := ⟨h28_⟩
                          clear HO_197001
                          clear HO_202001
                          clear HO_207001
                          clear HO_213001
                          clear BK179
                          clear BK180
                          clear BK196
                          clear BK201
                          clear BK206
                          clear BK212
                          clear HB
                          clear h0_ h1_ h2_ h3_ h4_ h5_ h6_ h7_ h8_ h9_ h10_ h11_ h12_ h13_ h14_ h15_ h16_ h17_ h18_ h19_ h20_ h21_ h22_ h23_ h24_ h25_ h26_ h27_ h28_
                          have HO235 := n0_
                          have HO239 := n1_
                          have HO243 := n2_
                          have HO_197001 := n3_
                          have HO_202001 := n4_
                          have HO_207001 := n5_
                          have HO_213001 := n6_
                          have BK179 := n7_
                          have BK180 := n8_
                          have BK196 := n9_
                          have BK201 := n10_
                          have BK206 := n11_
                          have BK212 := n12_
                          have BK245 := n13_
                          have GW245 := n14_
                          have GE245 := n15_
                          have NB179_245 := n16_
                          have NB245_179 := n17_
                          have NB180_245 := n18_
                          have NB245_180 := n19_
                          have NB196_245 := n20_
                          have NB245_196 := n21_
                          have NB201_245 := n22_
                          have NB245_201 := n23_
                          have NB206_245 := n24_
                          have NB245_206 := n25_
                          have NB212_245 := n26_
                          have NB245_212 := n27_
                          have HB := n28_
                          clear n0_ n1_ n2_ n3_ n4_ n5_ n6_ n7_ n8_ n9_ n10_ n11_ n12_ n13_ n14_ n15_ n16_ n17_ n18_ n19_ n20_ n21_ n22_ n23_ n24_ n25_ n26_ n27_ n28_
                          have hHeld : w191.cell? ⟨gb179, 0, none⟩ = some (.int .i64 a0_0) ∧ w191.cell? ⟨gb179, 1, none⟩ = some (.slice A0_1 l0_1.length c0_1) ∧ w191.cell? ⟨gb180, 0, none⟩ = some (.int .i64 a1_0) ∧ w191.cell? ⟨gb180, 1, none⟩ = some (.slice A1_1 l1_1.length c1_1) := hS_
                          obtain ⟨Ao193, co193, eo193⟩ := Kd.R_slice HO243.out
                          (first | subst eo193 | (injection eo193 with f1_ f2_ f3_; have f4_ := f1_.symm; have f5_ := f3_.symm; clear f1_ f2_ f3_; subst f4_; subst f5_))
                          refine norm_ (a' := ?_) ?_ ?_
                          rotate_left
                          · simp only [putAll, Act.put, List.setIfInBounds_toArray, List.set_cons_zero, List.set_cons_succ]
                            rfl
                          refine one_ (i := 9) (N := none) #[true, true, true, true, true, true, true, true, true, true, false] rfl rfl (one_of HT_.out (by kernel_rfl)) (by decide) (fun K hK => ?_)
                          have hs192 : w191.cell? ⟨gb245, 0, none⟩ = some (.int .i64 0) := cl BK245 0
                          have hfs192 := blk_frozen BK245.out 0
                          have hns192_0 := NB179_245.out
                          have hns192_1 := NB180_245.out
                          have hns192_2 := NB196_245.out
                          have hns192_3 := NB201_245.out
                          have hns192_4 := NB206_245.out
                          have hns192_5 := NB212_245.out
                          have hms192_0 := NB245_179.out
                          have hms192_1 := NB245_180.out
                          have hms192_2 := NB245_196.out
                          have hms192_3 := NB245_201.out
                          have hms192_4 := NB245_206.out
                          have hms192_5 := NB245_212.out
                          have hs194 : w191.cell? ⟨gb245, 1, none⟩ = some (.slice none 0 0) := cl BK245 1
                          have hfs194 := blk_frozen BK245.out 1
                          have hns194_0 := NB179_245.out
                          have hns194_1 := NB180_245.out
                          have hns194_2 := NB196_245.out
                          have hns194_3 := NB201_245.out
                          have hns194_4 := NB206_245.out
                          have hns194_5 := NB212_245.out
                          have hms194_0 := NB245_179.out
                          have hms194_1 := NB245_180.out
                          have hms194_2 := NB245_196.out
                          have hms194_3 := NB245_201.out
                          have hms194_4 := NB245_206.out
                          have hms194_5 := NB245_212.out
                          refine skip_ (w1 := ?_) (by rfl) rfl ?_ ?_
                          rotate_left
                          · go_simp
                            rfl
                          refine hK.out _ _ ⟨((cell_far (p := ⟨gb245, _, none⟩) NB179_245.out _).trans (((cell_far (p := ⟨gb245, _, none⟩) NB179_245.out _).trans (hHeld.1)))), ((cell_far (p := ⟨gb245, _, none⟩) NB179_245.out _).trans (((cell_far (p := ⟨gb245, _, none⟩) NB179_245.out _).trans (hHeld.2.1)))), ((cell_far (p := ⟨gb245, _, none⟩) NB180_245.out _).trans (((cell_far (p := ⟨gb245, _, none⟩) NB180_245.out _).trans (hHeld.2.2.1)))), ((cell_far (p := ⟨gb245, _, none⟩) NB180_245.out _).trans (((cell_far (p := ⟨gb245, _, none⟩) NB180_245.out _).trans (hHeld.2.2.2))))⟩ (fun hHeld => ?_)
                          clear hK K
                          refine pu 10 (some 16) #[true, true, true, true, true, true, true, true, true, true, true] HT_ ?_
                          refine done_ (done_of HT_.out (by kernel_rfl)) ?_
                          go_upto_region 32 with (fail)
                          go_cut [110] (fun v110 wc => ∃ (kq : Nat) (x110_173 : Bool), v110 = .bool x110_173 ∧ Aside0 (laws_FnExactBesideLadders.j2 kq t229 x110_173 t207 t230 = some r) ∧ Aside0 (kq ≤ kj107) ∧ Aside0 (Kd.R (Kd.int .i64) 3 wc w.heap.size (fun k_ => some k_ ≠ ((.slice Ao52 t225.length co52) : Value).ownBlock ∧ some k_ ≠ ((.slice Ao62 t227.length co62) : Value).ownBlock ∧ some k_ ≠ ((.slice Ao72 t208.length co72) : Value).ownBlock ∧ some k_ ≠ ((.slice Ao193 t241.length co193) : Value).ownBlock) (.slice Ao42 t192.length co42) t192) ∧ Aside0 (Kd.R (Kd.int .i64) 3 wc w.heap.size (fun k_ => some k_ ≠ ((.slice Ao42 t192.length co42) : Value).ownBlock ∧ some k_ ≠ ((.slice Ao62 t227.length co62) : Value).ownBlock ∧ some k_ ≠ ((.slice Ao72 t208.length co72) : Value).ownBlock ∧ some k_ ≠ ((.slice Ao193 t241.length co193) : Value).ownBlock) (.slice Ao52 t225.length co52) t225) ∧ Aside0 (Kd.R (Kd.int .i64) 3 wc w.heap.size (fun k_ => some k_ ≠ ((.slice Ao42 t192.length co42) : Value).ownBlock ∧ some k_ ≠ ((.slice Ao52 t225.length co52) : Value).ownBlock ∧ some k_ ≠ ((.slice Ao72 t208.length co72) : Value).ownBlock ∧ some k_ ≠ ((.slice Ao193 t241.length co193) : Value).ownBlock) (.slice Ao62 t227.length co62) t227) ∧ Aside0 (Kd.R (Kd.int .i64) 3 wc w.heap.size (fun k_ => some k_ ≠ ((.slice Ao42 t192.length co42) : Value).ownBlock ∧ some k_ ≠ ((.slice Ao52 t225.length co52) : Value).ownBlock ∧ some k_ ≠ ((.slice Ao62 t227.length co62) : Value).ownBlock ∧ some k_ ≠ ((.slice Ao193 t241.length co193) : Value).ownBlock) (.slice Ao72 t208.length co72) t230) ∧ Aside0 (Kd.R (Kd.int .i64) 3 wc w.heap.size (fun k_ => some k_ ≠ ((.slice Ao42 t192.length co42) : Value).ownBlock ∧ some k_ ≠ ((.slice Ao52 t225.length co52) : Value).ownBlock ∧ some k_ ≠ ((.slice Ao62 t227.length co62) : Value).ownBlock ∧ some k_ ≠ ((.slice Ao72 t208.length co72) : Value).ownBlock) (.slice Ao193 t241.length co193) t241) ∧ Aside0 (wc.heap[gb179]? = some (.cells #[.int .i64 a0_0, (.slice A0_1 l0_1.length c0_1)] 24 (0, 0))) ∧ Aside0 (wc.heap[gb180]? = some (.cells #[.int .i64 a1_0, (.slice A1_1 l1_1.length c1_1)] 24 (0, 0))) ∧ Aside0 (wc.heap[gb196]? = some (.cells #[.int .i64 t191, (.slice Ao42 t192.length co42)] 26 (0, 0))) ∧ Aside0 (wc.heap[gb201]? = some (.cells #[.int .i64 t197, (.slice Ao52 t225.length co52)] 26 (0, 0))) ∧ Aside0 (wc.heap[gb206]? = some (.cells #[.int .i64 t202, (.slice Ao62 t227.length co62)] 26 (0, 0))) ∧ Aside0 (wc.heap[gb212]? = some (.cells #[.int .i64 t207, (.slice Ao72 t208.length co72)] 26 (0, 0))) ∧ Aside0 (wc.heap[gb245]? = some (.cells #[.int .i64 t240, (.slice Ao193 t241.length co193)] 26 (0, 0))) ∧ Aside0 (Below w.heap.size w wc))
                          case first =>
                            have H := HC174.out
                            clear HC174
                            replace H := Option.bind_eq_some_iff.mp H
                            obtain ⟨t246, A1950, H⟩ := H
                            replace H : (if t246 = true then (laws_FnExactBesideLadders.j2 kj107 t229 (t244 != t195) t207 t230) else (laws_FnExactBesideLadders.j2 kj107 t229 true t207 t230)) = some r := H
                            have A195 := Aside0.mk A1950
                            clear A1950
                            by_cases c196 : t246 = true
                            · subst c196
                              have H1 : (laws_FnExactBesideLadders.j2 kj107 t229 (t244 != t195) t207 t230) = some r := by rw [if_pos rfl] at H; exact H
                              clear H
                              have H := H1
                              clear H1
                              have H' := Aside0.mk H
                              clear H
                              have hnb197 := NB245_179.out
                              have hnc197 := NB179_245.out
                              have hnb198 := NB245_180.out
                              have hnc198 := NB180_245.out
                              have hnb199 := NB245_196.out
                              have hnc199 := NB196_245.out
                              have hnb200 := NB245_201.out
                              have hnc200 := NB201_245.out
                              have hnb201 := NB245_206.out
                              have hnc201 := NB206_245.out
                              have hnb202 := NB245_212.out
                              have hnc202 := NB212_245.out
                              have hcz203_0 := cl BK245 0
                              have hcz203_1 := cl BK245 1
                              have hfz203_0 := blk_frozen BK245.out 0
                              have hfz203_1 := blk_frozen BK245.out 1
                              have hnb204 := NB196_179.out
                              have hnc204 := NB179_196.out
                              have hnb205 := NB196_180.out
                              have hnc205 := NB180_196.out
                              have hnb206 := NB196_201.out
                              have hnc206 := NB201_196.out
                              have hnb207 := NB196_206.out
                              have hnc207 := NB206_196.out
                              have hnb208 := NB196_212.out
                              have hnc208 := NB212_196.out
                              have hcz209_0 := cl BK196 0
                              have hcz209_1 := cl BK196 1
                              have hfz209_0 := blk_frozen BK196.out 0
                              have hfz209_1 := blk_frozen BK196.out 1
                              go_wp2_with (first | ((with_reducible refine gate_callee (f := 14) rfl ?_); refine gs (some 104) Try.func14 #[.agg #[.int .i64 t240, .slice Ao193 t241.length co193], .agg #[.int .i64 t191, .slice Ao42 t192.length co42]] ?_; (with_reducible refine (laws_eqLadder.calls kj107 t240 _ _ t241 t191 _ _ t192 true _ ?side1 ?side2 ?side3 ?side4 A195.out).mono ?_); (case side1 => refine (Kd.R_reads' (e := 3) (base := w.heap.size) (ok := fun k_ => (some k_ ≠ (v234 : Value).ownBlock ∧ (some k_ ≠ (v238 : Value).ownBlock ∧ (some k_ ≠ (.slice Ao42 t192.length co42 : Value).ownBlock ∧ (some k_ ≠ (.slice Ao52 t225.length co52 : Value).ownBlock ∧ (some k_ ≠ (.slice Ao62 t227.length co62 : Value).ownBlock ∧ some k_ ≠ (.slice Ao72 t208.length co72 : Value).ownBlock)))))) (n := t241.length) (c := co193) ?_).2.2; exact (qFp (qF HO243 BK245))); (case side2 => exact (Kd.R_reads' HO243.out).2.1); (case side3 => refine (Kd.R_reads' (e := 3) (base := w.heap.size) (ok := fun k_ => (some k_ ≠ (v234 : Value).ownBlock ∧ (some k_ ≠ (v238 : Value).ownBlock ∧ (some k_ ≠ (.slice Ao193 t241.length co193 : Value).ownBlock ∧ (some k_ ≠ (.slice Ao52 t225.length co52 : Value).ownBlock ∧ (some k_ ≠ (.slice Ao62 t227.length co62 : Value).ownBlock ∧ some k_ ≠ (.slice Ao72 t208.length co72 : Value).ownBlock)))))) (n := t192.length) (c := co42) ?_).2.2; exact (qFp (qF HO_197001 BK245))); (case side4 => exact (Kd.R_reads' HO_197001.out).2.1); rintro e w210 ⟨rfl, hb⟩; refine ⟨_, rfl, ?_⟩; have n0_ := Aside0.mk (Kd.R_below (qFp (qF HO_197001 BK245)) hb); have n1_ := Aside0.mk (Kd.R_below (qFp (qF HO_202001 BK245)) hb); have n2_ := Aside0.mk (Kd.R_below (qFp (qF HO_207001 BK245)) hb); have n3_ := Aside0.mk (Kd.R_below (qFp (qF HO_213001 BK245)) hb); have n4_ := Aside0.mk (Kd.R_below (qFp (qF HO235 BK245)) hb); have n5_ := Aside0.mk (Kd.R_below (qFp (qF HO239 BK245)) hb); have n6_ := Aside0.mk (Kd.R_below (qFp (qF HO243 BK245)) hb); have n7_ := uB BK179 hb; have n8_ := uB BK180 hb; have n9_ := uB BK196 hb; have n10_ := uB BK201 hb; have n11_ := uB BK206 hb; have n12_ := uB BK212 hb; have n13_ := Aside0.mk (blk_below (g := gb245) (o := .cells #[.int .i64 t240, .slice Ao193 t241.length co193] 26 (0, 0)) (by (with_reducible repeat (first | refine blk_drewN ?_ _ | refine blk_drew ?_ | refine blk_alloc ?_ _)); refine blk_put (cs := #[.int .i64 t240, .slice none 0 0]) ?_ 1 _ rfl; (with_reducible repeat (first | refine blk_drewN ?_ _ | refine blk_drew ?_ | refine blk_alloc ?_ _)); refine blk_put (cs := #[.int .i64 0, .slice none 0 0]) ?_ 0 _ rfl; (with_reducible repeat (first | refine blk_drewN ?_ _ | refine blk_drew ?_ | refine blk_alloc ?_ _)); exact BK245.out) hb); have n14_ := uD HB hb; clear HO_197001; clear HO_202001; clear HO_207001; clear HO_213001; clear HO235; clear HO239; clear HO243; clear BK179; clear BK180; clear BK196; clear BK201; clear BK206; clear BK212; clear BK245; clear HB; have HO_197001 := n0_; have HO_202001 := n1_; have HO_207001 := n2_; have HO_213001 := n3_; have HO235 := n4_; have HO239 := n5_; have HO243 := n6_; have BK179 := n7_; have BK180 := n8_; have BK196 := n9_; have BK201 := n10_; have BK206 := n11_; have BK212 := n12_; have BK245 := n13_; have HB := n14_; clear n0_ n1_ n2_ n3_ n4_ n5_ n6_ n7_ n8_ n9_ n10_ n11_ n12_ n13_ n14_; (try clear hb); (try clear hb2); (try clear hk); (try clear hi)))
                              go_meet
                              case rel => exact ⟨_, ((t244 != t195)), (by first | rfl | (simp; done) | (simp [*]; done)), H', ⟨by have := HJ24.out; have := HJ107.out; first | omega | exact Nat.le_refl _⟩, ⟨by (try simp only [hl202001_107]); (try simp only [hl207001_107]); (with_reducible repeat (first | apply Kd.R_alloc | apply Kd.R_drewN | apply Kd.R_drew)); exact Kd.R_mono HO_197001.out (fun _ hk => ⟨hk.2.2.2.1, ⟨hk.2.2.2.2.1, ⟨hk.2.2.2.2.2, hk.2.2.1⟩⟩⟩)⟩, ⟨by (try simp only [hl202001_107]); (try simp only [hl207001_107]); (with_reducible repeat (first | apply Kd.R_alloc | apply Kd.R_drewN | apply Kd.R_drew)); exact Kd.R_mono HO_202001.out (fun _ hk => ⟨hk.2.2.2.1, ⟨hk.2.2.2.2.1, ⟨hk.2.2.2.2.2, hk.2.2.1⟩⟩⟩)⟩, ⟨by (try simp only [hl202001_107]); (try simp only [hl207001_107]); (with_reducible repeat (first | apply Kd.R_alloc | apply Kd.R_drewN | apply Kd.R_drew)); exact Kd.R_mono HO_207001.out (fun _ hk => ⟨hk.2.2.2.1, ⟨hk.2.2.2.2.1, ⟨hk.2.2.2.2.2, hk.2.2.1⟩⟩⟩)⟩, ⟨by (try simp only [hl202001_107]); (try simp only [hl207001_107]); (with_reducible repeat (first | apply Kd.R_alloc | apply Kd.R_drewN | apply Kd.R_drew)); exact Kd.R_mono HO_213001.out (fun _ hk => ⟨hk.2.2.2.1, ⟨hk.2.2.2.2.1, ⟨hk.2.2.2.2.2, hk.2.2.1⟩⟩⟩)⟩, ⟨by (try simp only [hl202001_107]); (try simp only [hl207001_107]); (with_reducible repeat (first | apply Kd.R_alloc | apply Kd.R_drewN | apply Kd.R_drew)); exact Kd.R_mono HO243.out (fun _ hk => ⟨hk.2.2.1, ⟨hk.2.2.2.1, ⟨hk.2.2.2.2.1, hk.2.2.2.2.2⟩⟩⟩)⟩, ⟨by (try simp only [hl202001_107]); (try simp only [hl207001_107]); (with_reducible repeat (first | refine blk_drewN ?_ _ | refine blk_drew ?_ | refine blk_alloc ?_ _)); exact BK179.out⟩, ⟨by (try simp only [hl202001_107]); (try simp only [hl207001_107]); (with_reducible repeat (first | refine blk_drewN ?_ _ | refine blk_drew ?_ | refine blk_alloc ?_ _)); exact BK180.out⟩, ⟨by (try simp only [hl202001_107]); (try simp only [hl207001_107]); (with_reducible repeat (first | refine blk_drewN ?_ _ | refine blk_drew ?_ | refine blk_alloc ?_ _)); exact BK196.out⟩, ⟨by (try simp only [hl202001_107]); (try simp only [hl207001_107]); (with_reducible repeat (first | refine blk_drewN ?_ _ | refine blk_drew ?_ | refine blk_alloc ?_ _)); exact BK201.out⟩, ⟨by (try simp only [hl202001_107]); (try simp only [hl207001_107]); (with_reducible repeat (first | refine blk_drewN ?_ _ | refine blk_drew ?_ | refine blk_alloc ?_ _)); exact BK206.out⟩, ⟨by (try simp only [hl202001_107]); (try simp only [hl207001_107]); (with_reducible repeat (first | refine blk_drewN ?_ _ | refine blk_drew ?_ | refine blk_alloc ?_ _)); exact BK212.out⟩, ⟨by (try simp only [hl202001_107]); (try simp only [hl207001_107]); (with_reducible repeat (first | refine blk_drewN ?_ _ | refine blk_drew ?_ | refine blk_alloc ?_ _)); exact BK245.out⟩, ⟨qD HB⟩⟩
                            · replace c196 := Bool.eq_false_iff.mpr c196
                              subst c196
                              have H1 : (laws_FnExactBesideLadders.j2 kj107 t229 true t207 t230) = some r := by rw [if_neg (show ¬ (false = true) by decide)] at H; exact H
                              clear H
                              have H := H1
                              clear H1
                              have H' := Aside0.mk H
                              clear H
                              have hnb211 := NB245_179.out
                              have hnc211 := NB179_245.out
                              have hnb212 := NB245_180.out
                              have hnc212 := NB180_245.out
                              have hnb213 := NB245_196.out
                              have hnc213 := NB196_245.out
                              have hnb214 := NB245_201.out
                              have hnc214 := NB201_245.out
                              have hnb215 := NB245_206.out
                              have hnc215 := NB206_245.out
                              have hnb216 := NB245_212.out
                              have hnc216 := NB212_245.out
                              have hcz217_0 := cl BK245 0
                              have hcz217_1 := cl BK245 1
                              have hfz217_0 := blk_frozen BK245.out 0
                              have hfz217_1 := blk_frozen BK245.out 1
                              have hnb218 := NB196_179.out
                              have hnc218 := NB179_196.out
                              have hnb219 := NB196_180.out
                              have hnc219 := NB180_196.out
                              have hnb220 := NB196_201.out
                              have hnc220 := NB201_196.out
                              have hnb221 := NB196_206.out
                              have hnc221 := NB206_196.out
                              have hnb222 := NB196_212.out
                              have hnc222 := NB212_196.out
                              have hcz223_0 := cl BK196 0
                              have hcz223_1 := cl BK196 1
                              have hfz223_0 := blk_frozen BK196.out 0
                              have hfz223_1 := blk_frozen BK196.out 1
                              go_wp2_with (first | ((with_reducible refine gate_callee (f := 14) rfl ?_); refine gs (some 104) Try.func14 #[.agg #[.int .i64 t240, .slice Ao193 t241.length co193], .agg #[.int .i64 t191, .slice Ao42 t192.length co42]] ?_; (with_reducible refine (laws_eqLadder.calls kj107 t240 _ _ t241 t191 _ _ t192 false _ ?side1 ?side2 ?side3 ?side4 A195.out).mono ?_); (case side1 => refine (Kd.R_reads' (e := 3) (base := w.heap.size) (ok := fun k_ => (some k_ ≠ (v234 : Value).ownBlock ∧ (some k_ ≠ (v238 : Value).ownBlock ∧ (some k_ ≠ (.slice Ao42 t192.length co42 : Value).ownBlock ∧ (some k_ ≠ (.slice Ao52 t225.length co52 : Value).ownBlock ∧ (some k_ ≠ (.slice Ao62 t227.length co62 : Value).ownBlock ∧ some k_ ≠ (.slice Ao72 t208.length co72 : Value).ownBlock)))))) (n := t241.length) (c := co193) ?_).2.2; exact (qFp (qF HO243 BK245))); (case side2 => exact (Kd.R_reads' HO243.out).2.1); (case side3 => refine (Kd.R_reads' (e := 3) (base := w.heap.size) (ok := fun k_ => (some k_ ≠ (v234 : Value).ownBlock ∧ (some k_ ≠ (v238 : Value).ownBlock ∧ (some k_ ≠ (.slice Ao193 t241.length co193 : Value).ownBlock ∧ (some k_ ≠ (.slice Ao52 t225.length co52 : Value).ownBlock ∧ (some k_ ≠ (.slice Ao62 t227.length co62 : Value).ownBlock ∧ some k_ ≠ (.slice Ao72 t208.length co72 : Value).ownBlock)))))) (n := t192.length) (c := co42) ?_).2.2; exact (qFp (qF HO_197001 BK245))); (case side4 => exact (Kd.R_reads' HO_197001.out).2.1); rintro e w224 ⟨rfl, hb⟩; refine ⟨_, rfl, ?_⟩; have n0_ := Aside0.mk (Kd.R_below (qFp (qF HO_197001 BK245)) hb); have n1_ := Aside0.mk (Kd.R_below (qFp (qF HO_202001 BK245)) hb); have n2_ := Aside0.mk (Kd.R_below (qFp (qF HO_207001 BK245)) hb); have n3_ := Aside0.mk (Kd.R_below (qFp (qF HO_213001 BK245)) hb); have n4_ := Aside0.mk (Kd.R_below (qFp (qF HO235 BK245)) hb); have n5_ := Aside0.mk (Kd.R_below (qFp (qF HO239 BK245)) hb); have n6_ := Aside0.mk (Kd.R_below (qFp (qF HO243 BK245)) hb); have n7_ := uB BK179 hb; have n8_ := uB BK180 hb; have n9_ := uB BK196 hb; have n10_ := uB BK201 hb; have n11_ := uB BK206 hb; have n12_ := uB BK212 hb; have n13_ := Aside0.mk (blk_below (g := gb245) (o := .cells #[.int .i64 t240, .slice Ao193 t241.length co193] 26 (0, 0)) (by (with_reducible repeat (first | refine blk_drewN ?_ _ | refine blk_drew ?_ | refine blk_alloc ?_ _)); refine blk_put (cs := #[.int .i64 t240, .slice none 0 0]) ?_ 1 _ rfl; (with_reducible repeat (first | refine blk_drewN ?_ _ | refine blk_drew ?_ | refine blk_alloc ?_ _)); refine blk_put (cs := #[.int .i64 0, .slice none 0 0]) ?_ 0 _ rfl; (with_reducible repeat (first | refine blk_drewN ?_ _ | refine blk_drew ?_ | refine blk_alloc ?_ _)); exact BK245.out) hb); have n14_ := uD HB hb; clear HO_197001; clear HO_202001; clear HO_207001; clear HO_213001; clear HO235; clear HO239; clear HO243; clear BK179; clear BK180; clear BK196; clear BK201; clear BK206; clear BK212; clear BK245; clear HB; have HO_197001 := n0_; have HO_202001 := n1_; have HO_207001 := n2_; have HO_213001 := n3_; have HO235 := n4_; have HO239 := n5_; have HO243 := n6_; have BK179 := n7_; have BK180 := n8_; have BK196 := n9_; have BK201 := n10_; have BK206 := n11_; have BK212 := n12_; have BK245 := n13_; have HB := n14_; clear n0_ n1_ n2_ n3_ n4_ n5_ n6_ n7_ n8_ n9_ n10_ n11_ n12_ n13_ n14_; (try clear hb); (try clear hb2); (try clear hk); (try clear hi)))
                              go_meet
                              case rel => exact ⟨_, (true), (by first | rfl | (simp; done) | (simp [*]; done)), H', ⟨by have := HJ24.out; have := HJ107.out; first | omega | exact Nat.le_refl _⟩, ⟨by (try simp only [hl202001_107]); (try simp only [hl207001_107]); (with_reducible repeat (first | apply Kd.R_alloc | apply Kd.R_drewN | apply Kd.R_drew)); exact Kd.R_mono HO_197001.out (fun _ hk => ⟨hk.2.2.2.1, ⟨hk.2.2.2.2.1, ⟨hk.2.2.2.2.2, hk.2.2.1⟩⟩⟩)⟩, ⟨by (try simp only [hl202001_107]); (try simp only [hl207001_107]); (with_reducible repeat (first | apply Kd.R_alloc | apply Kd.R_drewN | apply Kd.R_drew)); exact Kd.R_mono HO_202001.out (fun _ hk => ⟨hk.2.2.2.1, ⟨hk.2.2.2.2.1, ⟨hk.2.2.2.2.2, hk.2.2.1⟩⟩⟩)⟩, ⟨by (try simp only [hl202001_107]); (try simp only [hl207001_107]); (with_reducible repeat (first | apply Kd.R_alloc | apply Kd.R_drewN | apply Kd.R_drew)); exact Kd.R_mono HO_207001.out (fun _ hk => ⟨hk.2.2.2.1, ⟨hk.2.2.2.2.1, ⟨hk.2.2.2.2.2, hk.2.2.1⟩⟩⟩)⟩, ⟨by (try simp only [hl202001_107]); (try simp only [hl207001_107]); (with_reducible repeat (first | apply Kd.R_alloc | apply Kd.R_drewN | apply Kd.R_drew)); exact Kd.R_mono HO_213001.out (fun _ hk => ⟨hk.2.2.2.1, ⟨hk.2.2.2.2.1, ⟨hk.2.2.2.2.2, hk.2.2.1⟩⟩⟩)⟩, ⟨by (try simp only [hl202001_107]); (try simp only [hl207001_107]); (with_reducible repeat (first | apply Kd.R_alloc | apply Kd.R_drewN | apply Kd.R_drew)); exact Kd.R_mono HO243.out (fun _ hk => ⟨hk.2.2.1, ⟨hk.2.2.2.1, ⟨hk.2.2.2.2.1, hk.2.2.2.2.2⟩⟩⟩)⟩, ⟨by (try simp only [hl202001_107]); (try simp only [hl207001_107]); (with_reducible repeat (first | refine blk_drewN ?_ _ | refine blk_drew ?_ | refine blk_alloc ?_ _)); exact BK179.out⟩, ⟨by (try simp only [hl202001_107]); (try simp only [hl207001_107]); (with_reducible repeat (first | refine blk_drewN ?_ _ | refine blk_drew ?_ | refine blk_alloc ?_ _)); exact BK180.out⟩, ⟨by (try simp only [hl202001_107]); (try simp only [hl207001_107]); (with_reducible repeat (first | refine blk_drewN ?_ _ | refine blk_drew ?_ | refine blk_alloc ?_ _)); exact BK196.out⟩, ⟨by (try simp only [hl202001_107]); (try simp only [hl207001_107]); (with_reducible repeat (first | refine blk_drewN ?_ _ | refine blk_drew ?_ | refine blk_alloc ?_ _)); exact BK201.out⟩, ⟨by (try simp only [hl202001_107]); (try simp only [hl207001_107]); (with_reducible repeat (first | refine blk_drewN ?_ _ | refine blk_drew ?_ | refine blk_alloc ?_ _)); exact BK206.out⟩, ⟨by (try simp only [hl202001_107]); (try simp only [hl207001_107]); (with_reducible repeat (first | refine blk_drewN ?_ _ | refine blk_drew ?_ | refine blk_alloc ?_ _)); exact BK212.out⟩, ⟨by (try simp only [hl202001_107]); (try simp only [hl207001_107]); (with_reducible repeat (first | refine blk_drewN ?_ _ | refine blk_drew ?_ | refine blk_alloc ?_ _)); exact BK245.out⟩, ⟨qD HB⟩⟩
                          case rest =>
                            clear HC174
                            try clear c1
                            try clear c2
                            try clear p2
                            try clear c12
                            try clear c13
                            try clear c14
                            try clear c19
                            try clear c20
                            try clear c21
                            try clear c22
                            try clear c196
                            try clear c197
                            try clear c198
                            try clear c199
                            try clear c200
                            try clear c201
                            try clear c202
                            try clear c204
                            try clear c205
                            try clear c206
                            try clear c207
                            try clear c208
                            try clear c211
                            try clear c212
                            try clear c213
                            try clear c214
                            try clear c215
                            try clear c216
                            try clear c218
                            try clear c219
                            try clear c220
                            try clear c221
                            try clear c222
                            try clear hcz203_0
                            try clear hcz203_1
                            try clear hcz209_0
                            try clear hcz209_1
                            try clear hcz217_0
                            try clear hcz217_1
                            try clear hcz223_0
                            try clear hcz223_1
                            try clear hfz203_0
                            try clear hfz203_1
                            try clear hfz209_0
                            try clear hfz209_1
                            try clear hfz217_0
                            try clear hfz217_1
                            try clear hfz223_0
                            try clear hfz223_1
                            obtain ⟨kq, x110_173, rfl, HA, HJ173, HO_197001, HO_202001, HO_207001, HO_213001, HO_246001, BK179, BK180, BK196, BK201, BK206, BK212, BK245, HB⟩ := hcut
                            have hl213001_173 := (Kd.R_reads' HO_213001.out).1
                            rw [hl213001_173] at HO_213001
                            (try simp only [hl213001_173])
                            (try simp only [hl213001_173] at BK179)
                            (try simp only [hl213001_173] at BK180)
                            (try simp only [hl213001_173] at BK196)
                            (try simp only [hl213001_173] at BK201)
                            (try simp only [hl213001_173] at BK206)
                            (try simp only [hl213001_173] at BK212)
                            (try simp only [hl213001_173] at BK245)
                            (try simp only [hl213001_173] at HO_197001)
                            (try simp only [hl213001_173] at HO_202001)
                            (try simp only [hl213001_173] at HO_207001)
                            (try simp only [hl213001_173] at HO_246001)
                            cases kq with
                            | zero => exact absurd HA.out (by simp [laws_FnExactBesideLadders.j2])
                            | succ kj173 =>
                              have H := HA.out
                              clear HA
                              simp only [laws_FnExactBesideLadders.j2] at H
                              by_cases c225 : x110_173 = true
                              · subst c225
                                have H1 : (some false) = some r := by rw [if_pos rfl] at H; exact H
                                clear H
                                have H := H1
                                clear H1
                                obtain rfl := Option.some.inj H
                                go_wp2
                                go_ret
                                exact ⟨by first | rfl | (simp [errW_none, errW_some] <;> rfl) | (simp [*, errW_none, errW_some] <;> rfl), qD HB⟩
                              · replace c225 := Bool.eq_false_iff.mpr c225
                                subst c225
                                have H1 : ((laws_heldLadder.f kj173 t207 t230 1).bind fun t247 => (if t247 < 0 then (some false) else (if t247 = t229 then (some true) else (some false)))) = some r := by rw [if_neg (show ¬ (false = true) by decide)] at H; exact H
                                clear H
                                have H := H1
                                clear H1
                                replace H := Option.bind_eq_some_iff.mp H
                                obtain ⟨t247, A2260, H⟩ := H
                                replace H : (if t247 < 0 then (some false) else (if t247 = t229 then (some true) else (some false))) = some r := H
                                have A226 := Aside0.mk A2260
                                clear A2260
                                by_cases c227 : t247 < 0
                                · rw [if_pos c227] at H
                                  have c227b0 : decide (t247 < 0) = true := decide_eq_true c227
                                  clear c227
                                  obtain rfl := Option.some.inj H
                                  have hnb228 := NB212_179.out
                                  have hnc228 := NB179_212.out
                                  have hnb229 := NB212_180.out
                                  have hnc229 := NB180_212.out
                                  have hnb230 := NB212_196.out
                                  have hnc230 := NB196_212.out
                                  have hnb231 := NB212_201.out
                                  have hnc231 := NB201_212.out
                                  have hnb232 := NB212_206.out
                                  have hnc232 := NB206_212.out
                                  have hnb233 := NB212_245.out
                                  have hnc233 := NB245_212.out
                                  have hcz234_0 := cl BK212 0
                                  have hcz234_1 := cl BK212 1
                                  have hfz234_0 := blk_frozen BK212.out 0
                                  have hfz234_1 := blk_frozen BK212.out 1
                                  go_wp2_with (first | ((with_reducible refine gate_callee (f := 16) rfl ?_); refine gs (some 113) Try.func16 #[.agg #[.int .i64 t207, .slice Ao72 t230.length co72], .int .i64 1] ?_; (with_reducible refine (laws_heldLadder.calls kj173 t207 _ _ t230 1 t247 _ ?side1 ?side2 A226.out).mono ?_); (case side1 => exact qC (Kd.R_reads' HO_213001.out).2.2); (case side2 => exact (Kd.R_reads' HO_213001.out).2.1); rintro e w235 ⟨rfl, hb⟩; refine ⟨_, rfl, ?_⟩; replace HO_197001 := uR HO_197001 hb; replace HO_202001 := uR HO_202001 hb; replace HO_207001 := uR HO_207001 hb; replace HO_213001 := uR HO_213001 hb; replace HO_246001 := uR HO_246001 hb; replace BK179 := uB BK179 hb; replace BK180 := uB BK180 hb; replace BK196 := uB BK196 hb; replace BK201 := uB BK201 hb; replace BK206 := uB BK206 hb; replace BK212 := uB BK212 hb; replace BK245 := uB BK245 hb; replace HB := uD HB hb; (try clear hb); (try clear hb2); (try clear hk); (try clear hi)))
                                  go_ret
                                  exact ⟨by first | rfl | (simp [errW_none, errW_some] <;> rfl) | (simp [*, errW_none, errW_some] <;> rfl), qD HB⟩
                                · rw [if_neg c227] at H
                                  have c227b0 : decide (t247 < 0) = false := decide_eq_false c227
                                  clear c227
                                  by_cases c236 : t247 = t229
                                  · rw [if_pos c236] at H
                                    have c236b0 : (t247 == t229) = true := beq_iff_eq.mpr c236
                                    have c236b1 : (t247 != t229) = false := bne_eq_false_iff_eq.mpr c236
                                    clear c236
                                    obtain rfl := Option.some.inj H
                                    have hnb237 := NB212_179.out
                                    have hnc237 := NB179_212.out
                                    have hnb238 := NB212_180.out
                                    have hnc238 := NB180_212.out
                                    have hnb239 := NB212_196.out
                                    have hnc239 := NB196_212.out
                                    have hnb240 := NB212_201.out
                                    have hnc240 := NB201_212.out
                                    have hnb241 := NB212_206.out
                                    have hnc241 := NB206_212.out
                                    have hnb242 := NB212_245.out
                                    have hnc242 := NB245_212.out
                                    have hcz243_0 := cl BK212 0
                                    have hcz243_1 := cl BK212 1
                                    have hfz243_0 := blk_frozen BK212.out 0
                                    have hfz243_1 := blk_frozen BK212.out 1
                                    go_wp2_with (first | ((with_reducible refine gate_callee (f := 16) rfl ?_); refine gs (some 113) Try.func16 #[.agg #[.int .i64 t207, .slice Ao72 t230.length co72], .int .i64 1] ?_; (with_reducible refine (laws_heldLadder.calls kj173 t207 _ _ t230 1 t247 _ ?side1 ?side2 A226.out).mono ?_); (case side1 => exact qC (Kd.R_reads' HO_213001.out).2.2); (case side2 => exact (Kd.R_reads' HO_213001.out).2.1); rintro e w244 ⟨rfl, hb⟩; refine ⟨_, rfl, ?_⟩; replace HO_197001 := uR HO_197001 hb; replace HO_202001 := uR HO_202001 hb; replace HO_207001 := uR HO_207001 hb; replace HO_213001 := uR HO_213001 hb; replace HO_246001 := uR HO_246001 hb; replace BK179 := uB BK179 hb; replace BK180 := uB BK180 hb; replace BK196 := uB BK196 hb; replace BK201 := uB BK201 hb; replace BK206 := uB BK206 hb; replace BK212 := uB BK212 hb; replace BK245 := uB BK245 hb; replace HB := uD HB hb; (try clear hb); (try clear hb2); (try clear hk); (try clear hi)))
                                    go_ret
                                    exact ⟨by first | rfl | (simp [errW_none, errW_some] <;> rfl) | (simp [*, errW_none, errW_some] <;> rfl), qD HB⟩
                                  · rw [if_neg c236] at H
                                    have c236b0 : (t247 == t229) = false := beq_eq_false_iff_ne.mpr c236
                                    have c236b1 : (t247 != t229) = true := bne_iff_ne.mpr c236
                                    obtain rfl := Option.some.inj H
                                    have hnb245 := NB212_179.out
                                    have hnc245 := NB179_212.out
                                    have hnb246 := NB212_180.out
                                    have hnc246 := NB180_212.out
                                    have hnb247 := NB212_196.out
                                    have hnc247 := NB196_212.out
                                    have hnb248 := NB212_201.out
                                    have hnc248 := NB201_212.out
                                    have hnb249 := NB212_206.out
                                    have hnc249 := NB206_212.out
                                    have hnb250 := NB212_245.out
                                    have hnc250 := NB245_212.out
                                    have hcz251_0 := cl BK212 0
                                    have hcz251_1 := cl BK212 1
                                    have hfz251_0 := blk_frozen BK212.out 0
                                    have hfz251_1 := blk_frozen BK212.out 1
                                    go_wp2_with (first | ((with_reducible refine gate_callee (f := 16) rfl ?_); refine gs (some 113) Try.func16 #[.agg #[.int .i64 t207, .slice Ao72 t230.length co72], .int .i64 1] ?_; (with_reducible refine (laws_heldLadder.calls kj173 t207 _ _ t230 1 t247 _ ?side1 ?side2 A226.out).mono ?_); (case side1 => exact qC (Kd.R_reads' HO_213001.out).2.2); (case side2 => exact (Kd.R_reads' HO_213001.out).2.1); rintro e w252 ⟨rfl, hb⟩; refine ⟨_, rfl, ?_⟩; replace HO_197001 := uR HO_197001 hb; replace HO_202001 := uR HO_202001 hb; replace HO_207001 := uR HO_207001 hb; replace HO_213001 := uR HO_213001 hb; replace HO_246001 := uR HO_246001 hb; replace BK179 := uB BK179 hb; replace BK180 := uB BK180 hb; replace BK196 := uB BK196 hb; replace BK201 := uB BK201 hb; replace BK206 := uB BK206 hb; replace BK212 := uB BK212 hb; replace BK245 := uB BK245 hb; replace HB := uD HB hb; (try clear hb); (try clear hb2); (try clear hk); (try clear hi)))
                                    go_ret
                                    exact ⟨by first | rfl | (simp [errW_none, errW_some] <;> rfl) | (simp [*, errW_none, errW_some] <;> rfl), qD HB⟩
                        · rw [if_neg c170] at H
                          have c170b0 : (t231 == t229) = false := beq_eq_false_iff_ne.mpr c170
                          have c170b1 : (t231 != t229) = true := bne_iff_ne.mpr c170
                          obtain rfl := Option.some.inj H
                          have hnb253 := NB212_179.out
                          have hnc253 := NB179_212.out
                          have hnb254 := NB212_180.out
                          have hnc254 := NB180_212.out
                          have hnb255 := NB212_196.out
                          have hnc255 := NB196_212.out
                          have hnb256 := NB212_201.out
                          have hnc256 := NB201_212.out
                          have hnb257 := NB212_206.out
                          have hnc257 := NB206_212.out
                          have hcz258_0 := cl BK212 0
                          have hcz258_1 := cl BK212 1
                          have hfz258_0 := blk_frozen BK212.out 0
                          have hfz258_1 := blk_frozen BK212.out 1
                          go_wp2_with (first | ((with_reducible refine gate_callee (f := 15) rfl ?_); refine gs (some 85) Try.func15 #[.agg #[.int .i64 t207, .slice Ao72 t208.length co72], .int .i64 1] ?_; (with_reducible refine (laws_markLadder.calls kj107 t207 (fun k_ => some k_ = (.slice Ao72 t208.length co72 : Value).ownBlock) (.slice Ao72 t208.length co72) t208 1 t229 t230 w _ ?side1 ?side2 A158.out).mono ?_); (case side1 => repeat (first | (with_reducible first | exact HB.out | apply below_alloc | apply pw_below_drewN | apply below_drew1 | refine below_set ?_ GE179.out | refine below_set ?_ GE180.out | refine below_set ?_ GE196.out | refine below_set ?_ GE201.out | refine below_set ?_ GE206.out | refine below_set ?_ GE212.out) | exact HB.out)); (case side2 => exact Kd.R_tight rfl HO_213001.out); rintro e w259 ⟨rfl, hy0, hb, hkp⟩; refine ⟨_, rfl, ?_⟩; replace HO_197001 := Aside0.mk (Kd.R_mono (ok' := fun k_ => some k_ ≠ (.slice Ao52 t225.length co52 : Value).ownBlock ∧ some k_ ≠ (.slice Ao62 t227.length co62 : Value).ownBlock ∧ some k_ ≠ (.slice Ao72 t208.length co72 : Value).ownBlock) (Kd.R_keptB (HO_197001.out) hkp (fun k_ hk_ hs_ => (hk_.2.2) hs_)) (fun k_ hk_ => ⟨hk_.1.1, hk_.1.2.1, hk_.1.2.2⟩)); replace HO_202001 := Aside0.mk (Kd.R_mono (ok' := fun k_ => some k_ ≠ (.slice Ao42 t192.length co42 : Value).ownBlock ∧ some k_ ≠ (.slice Ao62 t227.length co62 : Value).ownBlock ∧ some k_ ≠ (.slice Ao72 t208.length co72 : Value).ownBlock) (Kd.R_keptB (HO_202001.out) hkp (fun k_ hk_ hs_ => (hk_.2.2) hs_)) (fun k_ hk_ => ⟨hk_.1.1, hk_.1.2.1, hk_.1.2.2⟩)); replace HO_207001 := Aside0.mk (Kd.R_mono (ok' := fun k_ => some k_ ≠ (.slice Ao42 t192.length co42 : Value).ownBlock ∧ some k_ ≠ (.slice Ao52 t225.length co52 : Value).ownBlock ∧ some k_ ≠ (.slice Ao72 t208.length co72 : Value).ownBlock) (Kd.R_keptB (HO_207001.out) hkp (fun k_ hk_ hs_ => (hk_.2.2) hs_)) (fun k_ hk_ => ⟨hk_.1.1, hk_.1.2.1, hk_.1.2.2⟩)); replace BK179 := Aside0.mk (blk_kept (qB BK179) hkp (fun hs_ => (fun e_ => (Kd.R_ne HO_213001.out BK179.out (by decide)) e_) hs_)); replace BK180 := Aside0.mk (blk_kept (qB BK180) hkp (fun hs_ => (fun e_ => (Kd.R_ne HO_213001.out BK180.out (by decide)) e_) hs_)); replace BK196 := Aside0.mk (blk_kept (qB BK196) hkp (fun hs_ => (fun e_ => (Kd.R_ne HO_213001.out BK196.out (by decide)) e_) hs_)); replace BK201 := Aside0.mk (blk_kept (qB BK201) hkp (fun hs_ => (fun e_ => (Kd.R_ne HO_213001.out BK201.out (by decide)) e_) hs_)); replace BK206 := Aside0.mk (blk_kept (qB BK206) hkp (fun hs_ => (fun e_ => (Kd.R_ne HO_213001.out BK206.out (by decide)) e_) hs_)); replace BK212 := Aside0.mk (blk_kept (qB BK212) hkp (fun hs_ => (fun e_ => (Kd.R_ne HO_213001.out BK212.out (by decide)) e_) hs_)); replace HO_213001 := Aside0.mk (Kd.R_reok rfl hy0 (fun k_ e_ => HO_213001.out.1 k_ e_)); replace HB := Aside0.mk (hb); (try clear hb); (try clear hkp); (try clear hy0); have hcz260_0 := cl BK212 0; have hcz260_1 := cl BK212 1; have hfz260_0 := blk_frozen BK212.out 0; have hfz260_1 := blk_frozen BK212.out 1) | ((with_reducible refine gate_callee (f := 16) rfl ?_); refine goesL_ (some 88) rfl rfl Try.func16 (by kernel_rfl) rfl #[.agg #[.int .i64 t207, .slice Ao72 t230.length co72], .int .i64 1] rfl (by (try simp only [List.map_toArray, List.map_cons, List.map_nil]); first | done | (rw [show t230.length = t208.length from (Kd.R_reads' HO_213001.out).1.symm] <;> rfl) | rfl | (simp only [List.length_drop, List.length_take]; rfl)) ?_; (with_reducible refine (laws_heldLadder.calls kj107 t207 _ _ t230 1 t231 _ ?side1 ?side2 A159.out).mono ?_); (case side1 => exact qC (Kd.R_reads' HO_213001.out).2.2); (case side2 => rw [show t230.length = t208.length from (Kd.R_reads' HO_213001.out).1.symm]; exact (Kd.R_reads' HO_213001.out).2.1); rintro e w261 ⟨rfl, hb⟩; refine ⟨_, rfl, ?_⟩; replace HO_197001 := uR HO_197001 hb; replace HO_202001 := uR HO_202001 hb; replace HO_207001 := uR HO_207001 hb; replace HO_213001 := uR HO_213001 hb; replace BK179 := uB BK179 hb; replace BK180 := uB BK180 hb; replace BK196 := uB BK196 hb; replace BK201 := uB BK201 hb; replace BK206 := uB BK206 hb; replace BK212 := uB BK212 hb; replace HB := uD HB hb; (try clear hb); (try clear hb2); (try clear hk); (try clear hi)))
                          go_ret
                          exact ⟨by first | rfl | (simp [errW_none, errW_some] <;> rfl) | (simp [*, errW_none, errW_some] <;> rfl), qD HB⟩
              · replace c105 := Bool.eq_false_iff.mpr c105
                subst c105
                have H1 : (some false) = some r := by rw [if_neg (show ¬ (false = true) by decide)] at H; exact H
                clear H
                have H := H1
                clear H1
                obtain rfl := Option.some.inj H
                try go_wp2
                replace HO_197001 := Aside0.mk (Kd.R_drew HO_197001.out)
                replace HO_202001 := Aside0.mk (Kd.R_drew HO_202001.out)
                replace HO_207001 := Aside0.mk (Kd.R_drew HO_207001.out)
                replace HO_213001 := Aside0.mk (Kd.R_drew HO_213001.out)
                replace BK179 := Aside0.mk (blk_drew BK179.out)
                replace BK180 := Aside0.mk (blk_drew BK180.out)
                replace BK196 := Aside0.mk (blk_drew BK196.out)
                replace BK201 := Aside0.mk (blk_drew BK201.out)
                replace BK206 := Aside0.mk (blk_drew BK206.out)
                replace BK212 := Aside0.mk (blk_drew BK212.out)
                replace HB := Aside0.mk (below_drew1 HB.out)
                refine start_ (n := 5) (S := fun w' => w'.cell? ⟨gb201, 0, none⟩ = some (.int .i64 t197) ∧ w'.cell? ⟨gb201, 1, none⟩ = some (.slice Ao52 t198.length co52) ∧ w'.cell? ⟨gb179, 0, none⟩ = some (.int .i64 a0_0) ∧ w'.cell? ⟨gb179, 1, none⟩ = some (.slice A0_1 l0_1.length c0_1)) (ds := []) #[false, false, false, false, false] (by kernel_rfl) rfl rfl ⟨cl BK201 0, cl BK201 1, cl BK179 0, cl BK179 1⟩ (fun hHeld => ?_)
                generalize wc.drew = w262 at HO_197001 HO_202001 HO_207001 HO_213001 BK179 BK180 BK196 BK201 BK206 BK212 HB hHeld ⊢
                refine take_ (i := 0) (N := some 54) (v := ?_) (a' := ?_) #[true, false, false, false, false] rfl rfl (by kernel_rfl) (fun _ _ _ h => h) (Or.inl ⟨by rfl, ?_⟩) hHeld ?_ ?_
                rotate_left
                · rintro w' ⟨s0, s1, s2, s3⟩
                  go_simp
                  with_reducible rfl
                rotate_left
                · simp only [Act.put, List.setIfInBounds_toArray, List.set_cons_zero, List.set_cons_succ, i64_w, i32_w]
                  rfl
                refine take_ (i := 1) (N := some 55) (v := ?_) (a' := ?_) #[true, true, false, false, false] rfl rfl (by kernel_rfl) (fun _ _ _ h => h) (Or.inl ⟨by rfl, ?_⟩) hHeld ?_ ?_
                rotate_left
                · rintro w' ⟨s0, s1, s2, s3⟩
                  go_simp
                  with_reducible rfl
                rotate_left
                · simp only [Act.put, List.setIfInBounds_toArray, List.set_cons_zero, List.set_cons_succ, i64_w, i32_w]
                  rfl
                refine one_ (i := 2) (N := some 56) #[true, true, true, false, false] rfl rfl (by kernel_rfl) (by decide) (fun K hK => ?_)
                refine gt Try.func12 #[.agg #[.int .i64 a0_0, .slice A0_1 l0_1.length c0_1]] ?_
                with_reducible refine (laws_toLadder.calls kj24 a0_0 _ _ l0_1 t214 t215 _ ?side1 ?side2 A100.out).mono ?_
                (case side1 => exact qC (Kd.C_below HR0_1.out HB.out))
                (case side2 => exact HC0_1.out)
                rintro e w263 ⟨v216, rfl, ho0, hb⟩
                refine ⟨_, rfl, ?_⟩
                have HO217 := Aside0.mk (Kd.R_lower (Kd.R_new' (Kd.R_new' (Kd.R_new' (Kd.R_new' ho0 (Kd.R_lt (qR HO_197001))) (Kd.R_lt (qR HO_202001))) (Kd.R_lt (qR HO_207001))) (Kd.R_lt (qR HO_213001))) (below_size (qD HB)))
                replace HO_197001 := eR HO_197001 ho0 hb
                replace HO_202001 := eR HO_202001 ho0 hb
                replace HO_207001 := eR HO_207001 ho0 hb
                replace HO_213001 := eR HO_213001 ho0 hb
                replace BK179 := uB BK179 hb
                replace BK180 := uB BK180 hb
                replace BK196 := uB BK196 hb
                replace BK201 := uB BK201 hb
                replace BK206 := uB BK206 hb
                replace BK212 := uB BK212 hb
                replace HB := uD HB hb
                (try clear hb)
                (try clear hb2)
                (try clear hk)
                (try clear hi)
                (try clear ho0)
                obtain ⟨Ao264, co264, eo264⟩ := Kd.R_slice HO217.out
                (first | subst eo264 | (injection eo264 with f1_ f2_ f3_; have f4_ := f1_.symm; have f5_ := f3_.symm; clear f1_ f2_ f3_; subst f4_; subst f5_))
                refine hK.out _ _ ⟨cl BK201 0, cl BK201 1, cl BK179 0, cl BK179 1⟩ (fun hHeld => ?_)
                clear hK K
                refine nm (some 56) ?_
                refine one_ (i := 3) (N := some 57) #[true, true, true, true, false] rfl rfl (by kernel_rfl) (by decide) (fun K hK => ?_)
                refine gt Try.func14 #[.agg #[.int .i64 t197, .slice Ao52 t198.length co52], .agg #[.int .i64 t214, .slice Ao264 t215.length co264]] ?_
                with_reducible refine (laws_eqLadder.calls kj24 t197 _ _ t198 t214 _ _ t215 true _ ?side1 ?side2 ?side3 ?side4 A101.out).mono ?_
                (case side1 => exact qC (Kd.R_reads' HO_202001.out).2.2)
                (case side2 => exact (Kd.R_reads' HO_202001.out).2.1)
                (case side3 => exact qC (Kd.R_reads' HO217.out).2.2)
                (case side4 => exact (Kd.R_reads' HO217.out).2.1)
                rintro e w265 ⟨rfl, hb⟩
                refine ⟨_, rfl, ?_⟩
                replace HO_197001 := uR HO_197001 hb
                replace HO_202001 := uR HO_202001 hb
                replace HO_207001 := uR HO_207001 hb
                replace HO_213001 := uR HO_213001 hb
                replace HO217 := uR HO217 hb
                replace BK179 := uB BK179 hb
                replace BK180 := uB BK180 hb
                replace BK196 := uB BK196 hb
                replace BK201 := uB BK201 hb
                replace BK206 := uB BK206 hb
                replace BK212 := uB BK212 hb
                replace HB := uD HB hb
                (try clear hb)
                (try clear hb2)
                (try clear hk)
                (try clear hi)
                refine hK.out _ _ ⟨cl BK201 0, cl BK201 1, cl BK179 0, cl BK179 1⟩ (fun hHeld => ?_)
                clear hK K
                refine nm (some 57) ?_
                refine pure_ (i := 4) (N := some 58) (v := ?_) (a' := ?_) #[true, true, true, true, true] rfl rfl (by kernel_rfl) (fun _ _ _ h => h) (Or.inl ⟨by rfl, ?_⟩) ?_ ?_
                rotate_left
                · intro w'
                  go_simp
                  with_reducible rfl
                rotate_left
                · simp only [Act.put, List.setIfInBounds_toArray, List.set_cons_zero, List.set_cons_succ, i64_w, i32_w]
                  rfl
                refine done_ (by kernel_rfl) ?_
                try go_wp2
                replace HO_197001 := Aside0.mk (Kd.R_drew HO_197001.out)
                replace HO_202001 := Aside0.mk (Kd.R_drew HO_202001.out)
                replace HO_207001 := Aside0.mk (Kd.R_drew HO_207001.out)
                replace HO_213001 := Aside0.mk (Kd.R_drew HO_213001.out)
                replace HO217 := Aside0.mk (Kd.R_drew HO217.out)
                replace BK179 := Aside0.mk (blk_drew BK179.out)
                replace BK180 := Aside0.mk (blk_drew BK180.out)
                replace BK196 := Aside0.mk (blk_drew BK196.out)
                replace BK201 := Aside0.mk (blk_drew BK201.out)
                replace BK206 := Aside0.mk (blk_drew BK206.out)
                replace BK212 := Aside0.mk (blk_drew BK212.out)
                replace HB := Aside0.mk (below_drew1 HB.out)
                refine start_ (n := 5) (S := fun w' => w'.cell? ⟨gb206, 0, none⟩ = some (.int .i64 t202) ∧ w'.cell? ⟨gb206, 1, none⟩ = some (.slice Ao62 t203.length co62) ∧ w'.cell? ⟨gb180, 0, none⟩ = some (.int .i64 a1_0) ∧ w'.cell? ⟨gb180, 1, none⟩ = some (.slice A1_1 l1_1.length c1_1)) (ds := []) #[false, false, false, false, false] (by kernel_rfl) rfl rfl ⟨cl BK206 0, cl BK206 1, cl BK180 0, cl BK180 1⟩ (fun hHeld => ?_)
                generalize w265.drew = w266 at HO_197001 HO_202001 HO_207001 HO_213001 HO217 BK179 BK180 BK196 BK201 BK206 BK212 HB hHeld ⊢
                refine take_ (i := 0) (N := some 59) (v := ?_) (a' := ?_) #[true, false, false, false, false] rfl rfl (by kernel_rfl) (fun _ _ _ h => h) (Or.inl ⟨by rfl, ?_⟩) hHeld ?_ ?_
                rotate_left
                · rintro w' ⟨s0, s1, s2, s3⟩
                  go_simp
                  with_reducible rfl
                rotate_left
                · simp only [Act.put, List.setIfInBounds_toArray, List.set_cons_zero, List.set_cons_succ, i64_w, i32_w]
                  rfl
                refine take_ (i := 1) (N := some 60) (v := ?_) (a' := ?_) #[true, true, false, false, false] rfl rfl (by kernel_rfl) (fun _ _ _ h => h) (Or.inl ⟨by rfl, ?_⟩) hHeld ?_ ?_
                rotate_left
                · rintro w' ⟨s0, s1, s2, s3⟩
                  go_simp
                  with_reducible rfl
                rotate_left
                · simp only [Act.put, List.setIfInBounds_toArray, List.set_cons_zero, List.set_cons_succ, i64_w, i32_w]
                  rfl
                refine one_ (i := 2) (N := some 61) #[true, true, true, false, false] rfl rfl (by kernel_rfl) (by decide) (fun K hK => ?_)
                refine gt Try.func12 #[.agg #[.int .i64 a1_0, .slice A1_1 l1_1.length c1_1]] ?_
                with_reducible refine (laws_toLadder.calls kj24 a1_0 _ _ l1_1 t219 t220 _ ?side1 ?side2 A103.out).mono ?_
                (case side1 => exact qC (Kd.C_below HR1_1.out HB.out))
                (case side2 => exact HC1_1.out)
                rintro e w267 ⟨v221, rfl, ho0, hb⟩
                refine ⟨_, rfl, ?_⟩
                have HO222 := Aside0.mk (Kd.R_lower (Kd.R_new' (Kd.R_new' (Kd.R_new' (Kd.R_new' (Kd.R_new' ho0 (Kd.R_lt (qR HO_197001))) (Kd.R_lt (qR HO_202001))) (Kd.R_lt (qR HO_207001))) (Kd.R_lt (qR HO_213001))) (Kd.R_lt (qR HO217))) (below_size (qD HB)))
                replace HO_197001 := eR HO_197001 ho0 hb
                replace HO_202001 := eR HO_202001 ho0 hb
                replace HO_207001 := eR HO_207001 ho0 hb
                replace HO_213001 := eR HO_213001 ho0 hb
                replace HO217 := eR HO217 ho0 hb
                replace BK179 := uB BK179 hb
                replace BK180 := uB BK180 hb
                replace BK196 := uB BK196 hb
                replace BK201 := uB BK201 hb
                replace BK206 := uB BK206 hb
                replace BK212 := uB BK212 hb
                replace HB := uD HB hb
                (try clear hb)
                (try clear hb2)
                (try clear hk)
                (try clear hi)
                (try clear ho0)
                obtain ⟨Ao268, co268, eo268⟩ := Kd.R_slice HO222.out
                (first | subst eo268 | (injection eo268 with f1_ f2_ f3_; have f4_ := f1_.symm; have f5_ := f3_.symm; clear f1_ f2_ f3_; subst f4_; subst f5_))
                refine hK.out _ _ ⟨cl BK206 0, cl BK206 1, cl BK180 0, cl BK180 1⟩ (fun hHeld => ?_)
                clear hK K
                refine nm (some 61) ?_
                refine one_ (i := 3) (N := some 62) #[true, true, true, true, false] rfl rfl (by kernel_rfl) (by decide) (fun K hK => ?_)
                refine gt Try.func14 #[.agg #[.int .i64 t202, .slice Ao62 t203.length co62], .agg #[.int .i64 t219, .slice Ao268 t220.length co268]] ?_
                with_reducible refine (laws_eqLadder.calls kj24 t202 _ _ t203 t219 _ _ t220 false _ ?side1 ?side2 ?side3 ?side4 A104.out).mono ?_
                (case side1 => exact qC (Kd.R_reads' HO_207001.out).2.2)
                (case side2 => exact (Kd.R_reads' HO_207001.out).2.1)
                (case side3 => exact qC (Kd.R_reads' HO222.out).2.2)
                (case side4 => exact (Kd.R_reads' HO222.out).2.1)
                rintro e w269 ⟨rfl, hb⟩
                refine ⟨_, rfl, ?_⟩
                replace HO_197001 := uR HO_197001 hb
                replace HO_202001 := uR HO_202001 hb
                replace HO_207001 := uR HO_207001 hb
                replace HO_213001 := uR HO_213001 hb
                replace HO217 := uR HO217 hb
                replace HO222 := uR HO222 hb
                replace BK179 := uB BK179 hb
                replace BK180 := uB BK180 hb
                replace BK196 := uB BK196 hb
                replace BK201 := uB BK201 hb
                replace BK206 := uB BK206 hb
                replace BK212 := uB BK212 hb
                replace HB := uD HB hb
                (try clear hb)
                (try clear hb2)
                (try clear hk)
                (try clear hi)
                refine hK.out _ _ ⟨cl BK206 0, cl BK206 1, cl BK180 0, cl BK180 1⟩ (fun hHeld => ?_)
                clear hK K
                refine nm (some 62) ?_
                refine pure_ (i := 4) (N := some 63) (v := ?_) (a' := ?_) #[true, true, true, true, true] rfl rfl (by kernel_rfl) (fun _ _ _ h => h) (Or.inl ⟨by rfl, ?_⟩) ?_ ?_
                rotate_left
                · intro w'
                  go_simp
                  with_reducible rfl
                rotate_left
                · simp only [Act.put, List.setIfInBounds_toArray, List.set_cons_zero, List.set_cons_succ, i64_w, i32_w]
                  rfl
                refine done_ (by kernel_rfl) ?_
                try go_wp2
                go_ret
                exact ⟨by first | rfl | (simp [errW_none, errW_some] <;> rfl) | (simp [*, errW_none, errW_some] <;> rfl), qD HB⟩
            · replace c102 := Bool.eq_false_iff.mpr c102
              subst c102
              have H1 : (some false) = some r := by rw [if_neg (show ¬ (false = true) by decide)] at H; exact H
              clear H
              have H := H1
              clear H1
              obtain rfl := Option.some.inj H
              try go_wp2
              replace HO_197001 := Aside0.mk (Kd.R_drew HO_197001.out)
              replace HO_202001 := Aside0.mk (Kd.R_drew HO_202001.out)
              replace HO_207001 := Aside0.mk (Kd.R_drew HO_207001.out)
              replace HO_213001 := Aside0.mk (Kd.R_drew HO_213001.out)
              replace BK179 := Aside0.mk (blk_drew BK179.out)
              replace BK180 := Aside0.mk (blk_drew BK180.out)
              replace BK196 := Aside0.mk (blk_drew BK196.out)
              replace BK201 := Aside0.mk (blk_drew BK201.out)
              replace BK206 := Aside0.mk (blk_drew BK206.out)
              replace BK212 := Aside0.mk (blk_drew BK212.out)
              replace HB := Aside0.mk (below_drew1 HB.out)
              refine start_ (n := 5) (S := fun w' => w'.cell? ⟨gb201, 0, none⟩ = some (.int .i64 t197) ∧ w'.cell? ⟨gb201, 1, none⟩ = some (.slice Ao52 t198.length co52) ∧ w'.cell? ⟨gb179, 0, none⟩ = some (.int .i64 a0_0) ∧ w'.cell? ⟨gb179, 1, none⟩ = some (.slice A0_1 l0_1.length c0_1)) (ds := []) #[false, false, false, false, false] (by kernel_rfl) rfl rfl ⟨cl BK201 0, cl BK201 1, cl BK179 0, cl BK179 1⟩ (fun hHeld => ?_)
              generalize wc.drew = w270 at HO_197001 HO_202001 HO_207001 HO_213001 BK179 BK180 BK196 BK201 BK206 BK212 HB hHeld ⊢
              refine take_ (i := 0) (N := some 54) (v := ?_) (a' := ?_) #[true, false, false, false, false] rfl rfl (by kernel_rfl) (fun _ _ _ h => h) (Or.inl ⟨by rfl, ?_⟩) hHeld ?_ ?_
              rotate_left
              · rintro w' ⟨s0, s1, s2, s3⟩
                go_simp
                with_reducible rfl
              rotate_left
              · simp only [Act.put, List.setIfInBounds_toArray, List.set_cons_zero, List.set_cons_succ, i64_w, i32_w]
                rfl
              refine take_ (i := 1) (N := some 55) (v := ?_) (a' := ?_) #[true, true, false, false, false] rfl rfl (by kernel_rfl) (fun _ _ _ h => h) (Or.inl ⟨by rfl, ?_⟩) hHeld ?_ ?_
              rotate_left
              · rintro w' ⟨s0, s1, s2, s3⟩
                go_simp
                with_reducible rfl
              rotate_left
              · simp only [Act.put, List.setIfInBounds_toArray, List.set_cons_zero, List.set_cons_succ, i64_w, i32_w]
                rfl
              refine one_ (i := 2) (N := some 56) #[true, true, true, false, false] rfl rfl (by kernel_rfl) (by decide) (fun K hK => ?_)
              refine gt Try.func12 #[.agg #[.int .i64 a0_0, .slice A0_1 l0_1.length c0_1]] ?_
              with_reducible refine (laws_toLadder.calls kj24 a0_0 _ _ l0_1 t214 t215 _ ?side1 ?side2 A100.out).mono ?_
              (case side1 => exact qC (Kd.C_below HR0_1.out HB.out))
              (case side2 => exact HC0_1.out)
              rintro e w271 ⟨v216, rfl, ho0, hb⟩
              refine ⟨_, rfl, ?_⟩
              have HO217 := Aside0.mk (Kd.R_lower (Kd.R_new' (Kd.R_new' (Kd.R_new' (Kd.R_new' ho0 (Kd.R_lt (qR HO_197001))) (Kd.R_lt (qR HO_202001))) (Kd.R_lt (qR HO_207001))) (Kd.R_lt (qR HO_213001))) (below_size (qD HB)))
              replace HO_197001 := eR HO_197001 ho0 hb
              replace HO_202001 := eR HO_202001 ho0 hb
              replace HO_207001 := eR HO_207001 ho0 hb
              replace HO_213001 := eR HO_213001 ho0 hb
              replace BK179 := uB BK179 hb
              replace BK180 := uB BK180 hb
              replace BK196 := uB BK196 hb
              replace BK201 := uB BK201 hb
              replace BK206 := uB BK206 hb
              replace BK212 := uB BK212 hb
              replace HB := uD HB hb
              (try clear hb)
              (try clear hb2)
              (try clear hk)
              (try clear hi)
              (try clear ho0)
              obtain ⟨Ao272, co272, eo272⟩ := Kd.R_slice HO217.out
              (first | subst eo272 | (injection eo272 with f1_ f2_ f3_; have f4_ := f1_.symm; have f5_ := f3_.symm; clear f1_ f2_ f3_; subst f4_; subst f5_))
              refine hK.out _ _ ⟨cl BK201 0, cl BK201 1, cl BK179 0, cl BK179 1⟩ (fun hHeld => ?_)
              clear hK K
              refine nm (some 56) ?_
              refine one_ (i := 3) (N := some 57) #[true, true, true, true, false] rfl rfl (by kernel_rfl) (by decide) (fun K hK => ?_)
              refine gt Try.func14 #[.agg #[.int .i64 t197, .slice Ao52 t198.length co52], .agg #[.int .i64 t214, .slice Ao272 t215.length co272]] ?_
              with_reducible refine (laws_eqLadder.calls kj24 t197 _ _ t198 t214 _ _ t215 false _ ?side1 ?side2 ?side3 ?side4 A101.out).mono ?_
              (case side1 => exact qC (Kd.R_reads' HO_202001.out).2.2)
              (case side2 => exact (Kd.R_reads' HO_202001.out).2.1)
              (case side3 => exact qC (Kd.R_reads' HO217.out).2.2)
              (case side4 => exact (Kd.R_reads' HO217.out).2.1)
              rintro e w273 ⟨rfl, hb⟩
              refine ⟨_, rfl, ?_⟩
              replace HO_197001 := uR HO_197001 hb
              replace HO_202001 := uR HO_202001 hb
              replace HO_207001 := uR HO_207001 hb
              replace HO_213001 := uR HO_213001 hb
              replace HO217 := uR HO217 hb
              replace BK179 := uB BK179 hb
              replace BK180 := uB BK180 hb
              replace BK196 := uB BK196 hb
              replace BK201 := uB BK201 hb
              replace BK206 := uB BK206 hb
              replace BK212 := uB BK212 hb
              replace HB := uD HB hb
              (try clear hb)
              (try clear hb2)
              (try clear hk)
              (try clear hi)
              refine hK.out _ _ ⟨cl BK201 0, cl BK201 1, cl BK179 0, cl BK179 1⟩ (fun hHeld => ?_)
              clear hK K
              refine nm (some 57) ?_
              refine pure_ (i := 4) (N := some 58) (v := ?_) (a' := ?_) #[true, true, true, true, true] rfl rfl (by kernel_rfl) (fun _ _ _ h => h) (Or.inl ⟨by rfl, ?_⟩) ?_ ?_
              rotate_left
              · intro w'
                go_simp
                with_reducible rfl
              rotate_left
              · simp only [Act.put, List.setIfInBounds_toArray, List.set_cons_zero, List.set_cons_succ, i64_w, i32_w]
                rfl
              refine done_ (by kernel_rfl) ?_
              try go_wp2
              go_ret
              exact ⟨by first | rfl | (simp [errW_none, errW_some] <;> rfl) | (simp [*, errW_none, errW_some] <;> rfl), qD HB⟩

end Go.Proofs.Ytlmlamkbedfmhaa.P
