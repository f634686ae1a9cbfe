-- Put together by wip/merge.py (a program of this session's) out of this claim's texts; Lean checks it.
import Derived.Test.YtlmlamkbedfmhaaG36
import Derived.Test.YtlmlamkbedfmhaaG32
import Derived.Test.YtlmlamkbedfmhaaG22
import Derived.Test.YtlmlamkbedfmhaaG23
import Derived.Test.YtlmlamkbedfmhaaG25
import Derived.Test.YtlmlamkbedfmhaaG26
import Derived.Test.YtlmlamkbedfmhaaG27
section
namespace Go.Proofs.Ytlmlamkbedfmhaa.P
open Go.RowKit Go.Proofs.YtlmlamkbedfmhaaW.PrintWords Go.Proofs.YtlmlamkbedfmhaaW.PrintLast Go.Proofs.YtlmlamkbedfmhaaW.PrintMore
attribute [local go_sem] max2_int min2_int max_two min_two max_three min_three max_four min_four   -- for this text's walks alone
set_option linter.unusedVariables false
set_option linter.unusedSimpArgs false

set_option maxHeartbeats 8000000 in
set_option maxRecDepth 100000 in
theorem laws_FnPlacesAndLasts.calls (k : Nat) (A0 : Option Addr) (c0 : Nat) (l0 : List Int) (A1 : Option Addr) (c1 : Nat) (l1 : List Int) (r : Bool) (w : World) (hr0 : Kd.C (Kd.int .u8) w A0 l0.length l0) (hc0 : l0.length ≤ c0) (hr1 : Kd.C (Kd.int .u8) w A1 l1.length l1) (hc1 : l1.length ≤ c1) (h : laws_FnPlacesAndLasts.f k l0 l1 = some r) :
    Calls Try.prog 8 #[.slice A0 l0.length c0, .slice A1 l1.length c1] w fun e w' => e = .returned (.bool r) ∧ Below w.heap.size w w' := by
  have hu26 := Try.underlying26
  have HR0 := Aside0.mk hr0
  have HC0 := Aside0.mk hc0
  clear hr0 hc0
  have HR1 := Aside0.mk hr1
  have HC1 := Aside0.mk hc1
  clear hr1 hc1
  have HB := Aside0.mk (Below.refl w.heap.size w)
  have H : ((laws_big.f l0 l1).bind fun t499 => (if t499 = true then (some true) else ((spec_DrawPlaceWinner.f l0).bind fun bt500 => ((impl_PlaceWinner.f k bt500.1 bt500.2.1 bt500.2.2.1 bt500.2.2.2).bind fun bt504 => ((spec_PlaceWinner.f k bt500.1 bt500.2.1 bt500.2.2.1 bt500.2.2.2).bind fun bt506 => ((impl_GoodPlaces.f k bt500.1 bt500.2.1 bt500.2.2.1 bt500.2.2.2).bind fun bt508 => ((spec_GoodPlaces.f k bt500.1 bt500.2.1 bt500.2.2.1 bt500.2.2.2).bind fun bt512 => ((impl_PlacesWon.f k bt500.1 bt500.2.2.1 bt500.2.2.2).bind fun bt516 => ((spec_PlacesWon.f k bt500.1 bt500.2.2.1 bt500.2.2.2).bind fun bt520 => (if (bt504.2 != bt506.2) = true then (none) else (if (bt504.1 != bt506.1) = true then (none) else (if (bt508.2 != bt512.2) = true then (none) else ((laws_nSame.f k bt508.1 bt512.1).bind fun t524 => (if t524 = true then (if (bt516.2 != bt520.2) = true then (none) else ((laws_nSame.f k bt516.1 bt520.1).bind fun t525 => (if t525 = true then (if (bt508.2 != bt504.2) = true then (none) else (if bt504.2 = true then (if bt516.2 = true then ((laws_nHas.f k bt516.1 bt500.2.1).bind fun t526 => (laws_FnPlacesAndLasts.j0 k l1 bt500.1 bt500.2.1 bt500.2.2.1 bt500.2.2.2 bt504.1 bt504.2 bt508.1 (bt504.1 != t526))) else (none)) else (laws_FnPlacesAndLasts.j0 k l1 bt500.1 bt500.2.1 bt500.2.2.1 bt500.2.2.2 bt504.1 bt504.2 bt508.1 false))) else (none)))) else (none))))))))))))))) = some r := h
  clear h
  replace H := Option.bind_eq_some_iff.mp H
  obtain ⟨t499, A30, H⟩ := H
  replace H : (if t499 = true then (some true) else ((spec_DrawPlaceWinner.f l0).bind fun bt500 => ((impl_PlaceWinner.f k bt500.1 bt500.2.1 bt500.2.2.1 bt500.2.2.2).bind fun bt504 => ((spec_PlaceWinner.f k bt500.1 bt500.2.1 bt500.2.2.1 bt500.2.2.2).bind fun bt506 => ((impl_GoodPlaces.f k bt500.1 bt500.2.1 bt500.2.2.1 bt500.2.2.2).bind fun bt508 => ((spec_GoodPlaces.f k bt500.1 bt500.2.1 bt500.2.2.1 bt500.2.2.2).bind fun bt512 => ((impl_PlacesWon.f k bt500.1 bt500.2.2.1 bt500.2.2.2).bind fun bt516 => ((spec_PlacesWon.f k bt500.1 bt500.2.2.1 bt500.2.2.2).bind fun bt520 => (if (bt504.2 != bt506.2) = true then (none) else (if (bt504.1 != bt506.1) = true then (none) else (if (bt508.2 != bt512.2) = true then (none) else ((laws_nSame.f k bt508.1 bt512.1).bind fun t524 => (if t524 = true then (if (bt516.2 != bt520.2) = true then (none) else ((laws_nSame.f k bt516.1 bt520.1).bind fun t525 => (if t525 = true then (if (bt508.2 != bt504.2) = true then (none) else (if bt504.2 = true then (if bt516.2 = true then ((laws_nHas.f k bt516.1 bt500.2.1).bind fun t526 => (laws_FnPlacesAndLasts.j0 k l1 bt500.1 bt500.2.1 bt500.2.2.1 bt500.2.2.2 bt504.1 bt504.2 bt508.1 (bt504.1 != t526))) else (none)) else (laws_FnPlacesAndLasts.j0 k l1 bt500.1 bt500.2.1 bt500.2.2.1 bt500.2.2.2 bt504.1 bt504.2 bt508.1 false))) else (none)))) else (none)))))))))))))) = some r := H
  have A3 := Aside0.mk A30
  clear A30
  by_cases c4 : t499 = true
  · subst c4
    have H1 : (some true) = some r := by rw [if_pos rfl] at H; exact H
    clear H
    have H := H1
    clear H1
    obtain rfl := Option.some.inj H
    go_enter Try.func8, Try.ntmps8
    go_wp2_with (first | ((with_reducible refine gate_callee (f := 30) rfl ?_); refine gs (some 48) Try.func30 #[.slice A0 l0.length c0, .slice A1 l1.length c1] ?_; (with_reducible refine (laws_big.calls _ _ l0 _ _ l1 true _ ?side1 ?side2 ?side3 ?side4 A3.out).mono ?_); (case side1 => repeat (first | exact HR0.out | (with_reducible refine Kd.C_alloc ?_ _) | (with_reducible refine Kd.C_drewN ?_ _) | (with_reducible refine Kd.C_drew ?_))); (case side2 => exact HC0.out); (case side3 => repeat (first | exact HR1.out | (with_reducible refine Kd.C_alloc ?_ _) | (with_reducible refine Kd.C_drewN ?_ _) | (with_reducible refine Kd.C_drew ?_))); (case side4 => exact HC1.out); rintro e w' ⟨rfl, ⟨nd, rfl⟩⟩; refine ⟨_, rfl, ?_⟩))
    go_ret
    exact ⟨by first | rfl | (simp [errW_none, errW_some] <;> rfl) | (simp [*, errW_none, errW_some] <;> rfl), qD HB⟩
  · replace c4 := Bool.eq_false_iff.mpr c4
    subst c4
    have H1 : ((spec_DrawPlaceWinner.f l0).bind fun bt500 => ((impl_PlaceWinner.f k bt500.1 bt500.2.1 bt500.2.2.1 bt500.2.2.2).bind fun bt504 => ((spec_PlaceWinner.f k bt500.1 bt500.2.1 bt500.2.2.1 bt500.2.2.2).bind fun bt506 => ((impl_GoodPlaces.f k bt500.1 bt500.2.1 bt500.2.2.1 bt500.2.2.2).bind fun bt508 => ((spec_GoodPlaces.f k bt500.1 bt500.2.1 bt500.2.2.1 bt500.2.2.2).bind fun bt512 => ((impl_PlacesWon.f k bt500.1 bt500.2.2.1 bt500.2.2.2).bind fun bt516 => ((spec_PlacesWon.f k bt500.1 bt500.2.2.1 bt500.2.2.2).bind fun bt520 => (if (bt504.2 != bt506.2) = true then (none) else (if (bt504.1 != bt506.1) = true then (none) else (if (bt508.2 != bt512.2) = true then (none) else ((laws_nSame.f k bt508.1 bt512.1).bind fun t524 => (if t524 = true then (if (bt516.2 != bt520.2) = true then (none) else ((laws_nSame.f k bt516.1 bt520.1).bind fun t525 => (if t525 = true then (if (bt508.2 != bt504.2) = true then (none) else (if bt504.2 = true then (if bt516.2 = true then ((laws_nHas.f k bt516.1 bt500.2.1).bind fun t526 => (laws_FnPlacesAndLasts.j0 k l1 bt500.1 bt500.2.1 bt500.2.2.1 bt500.2.2.2 bt504.1 bt504.2 bt508.1 (bt504.1 != t526))) else (none)) else (laws_FnPlacesAndLasts.j0 k l1 bt500.1 bt500.2.1 bt500.2.2.1 bt500.2.2.2 bt504.1 bt504.2 bt508.1 false))) else (none)))) else (none))))))))))))) = some r := by rw [if_neg (show ¬ (false = true) by decide)] at H; exact H
    clear H
    have H := H1
    clear H1
    replace H := Option.bind_eq_some_iff.mp H
    obtain ⟨⟨t500, t501, t502, t503⟩, A50, H⟩ := H
    replace H : ((impl_PlaceWinner.f k t500 t501 t502 t503).bind fun bt504 => ((spec_PlaceWinner.f k t500 t501 t502 t503).bind fun bt506 => ((impl_GoodPlaces.f k t500 t501 t502 t503).bind fun bt508 => ((spec_GoodPlaces.f k t500 t501 t502 t503).bind fun bt512 => ((impl_PlacesWon.f k t500 t502 t503).bind fun bt516 => ((spec_PlacesWon.f k t500 t502 t503).bind fun bt520 => (if (bt504.2 != bt506.2) = true then (none) else (if (bt504.1 != bt506.1) = true then (none) else (if (bt508.2 != bt512.2) = true then (none) else ((laws_nSame.f k bt508.1 bt512.1).bind fun t524 => (if t524 = true then (if (bt516.2 != bt520.2) = true then (none) else ((laws_nSame.f k bt516.1 bt520.1).bind fun t525 => (if t525 = true then (if (bt508.2 != bt504.2) = true then (none) else (if bt504.2 = true then (if bt516.2 = true then ((laws_nHas.f k bt516.1 t501).bind fun t526 => (laws_FnPlacesAndLasts.j0 k l1 t500 t501 t502 t503 bt504.1 bt504.2 bt508.1 (bt504.1 != t526))) else (none)) else (laws_FnPlacesAndLasts.j0 k l1 t500 t501 t502 t503 bt504.1 bt504.2 bt508.1 false))) else (none)))) else (none)))))))))))) = some r := H
    have A5 := Aside0.mk A50
    clear A50
    replace H := Option.bind_eq_some_iff.mp H
    obtain ⟨⟨t504, t505⟩, A60, H⟩ := H
    replace H : ((spec_PlaceWinner.f k t500 t501 t502 t503).bind fun bt506 => ((impl_GoodPlaces.f k t500 t501 t502 t503).bind fun bt508 => ((spec_GoodPlaces.f k t500 t501 t502 t503).bind fun bt512 => ((impl_PlacesWon.f k t500 t502 t503).bind fun bt516 => ((spec_PlacesWon.f k t500 t502 t503).bind fun bt520 => (if (t505 != bt506.2) = true then (none) else (if (t504 != bt506.1) = true then (none) else (if (bt508.2 != bt512.2) = true then (none) else ((laws_nSame.f k bt508.1 bt512.1).bind fun t524 => (if t524 = true then (if (bt516.2 != bt520.2) = true then (none) else ((laws_nSame.f k bt516.1 bt520.1).bind fun t525 => (if t525 = true then (if (bt508.2 != t505) = true then (none) else (if t505 = true then (if bt516.2 = true then ((laws_nHas.f k bt516.1 t501).bind fun t526 => (laws_FnPlacesAndLasts.j0 k l1 t500 t501 t502 t503 t504 t505 bt508.1 (t504 != t526))) else (none)) else (laws_FnPlacesAndLasts.j0 k l1 t500 t501 t502 t503 t504 t505 bt508.1 false))) else (none)))) else (none))))))))))) = some r := H
    have A6 := Aside0.mk A60
    clear A60
    replace H := Option.bind_eq_some_iff.mp H
    obtain ⟨⟨t506, t507⟩, A70, H⟩ := H
    replace H : ((impl_GoodPlaces.f k t500 t501 t502 t503).bind fun bt508 => ((spec_GoodPlaces.f k t500 t501 t502 t503).bind fun bt512 => ((impl_PlacesWon.f k t500 t502 t503).bind fun bt516 => ((spec_PlacesWon.f k t500 t502 t503).bind fun bt520 => (if (t505 != t507) = true then (none) else (if (t504 != t506) = true then (none) else (if (bt508.2 != bt512.2) = true then (none) else ((laws_nSame.f k bt508.1 bt512.1).bind fun t524 => (if t524 = true then (if (bt516.2 != bt520.2) = true then (none) else ((laws_nSame.f k bt516.1 bt520.1).bind fun t525 => (if t525 = true then (if (bt508.2 != t505) = true then (none) else (if t505 = true then (if bt516.2 = true then ((laws_nHas.f k bt516.1 t501).bind fun t526 => (laws_FnPlacesAndLasts.j0 k l1 t500 t501 t502 t503 t504 t505 bt508.1 (t504 != t526))) else (none)) else (laws_FnPlacesAndLasts.j0 k l1 t500 t501 t502 t503 t504 t505 bt508.1 false))) else (none)))) else (none)))))))))) = some r := H
    have A7 := Aside0.mk A70
    clear A70
    replace H := Option.bind_eq_some_iff.mp H
    obtain ⟨⟨t508, t509⟩, A80, H⟩ := H
    replace H : ((spec_GoodPlaces.f k t500 t501 t502 t503).bind fun bt512 => ((impl_PlacesWon.f k t500 t502 t503).bind fun bt516 => ((spec_PlacesWon.f k t500 t502 t503).bind fun bt520 => (if (t505 != t507) = true then (none) else (if (t504 != t506) = true then (none) else (if (t509 != bt512.2) = true then (none) else ((laws_nSame.f k t508 bt512.1).bind fun t524 => (if t524 = true then (if (bt516.2 != bt520.2) = true then (none) else ((laws_nSame.f k bt516.1 bt520.1).bind fun t525 => (if t525 = true then (if (t509 != t505) = true then (none) else (if t505 = true then (if bt516.2 = true then ((laws_nHas.f k bt516.1 t501).bind fun t526 => (laws_FnPlacesAndLasts.j0 k l1 t500 t501 t502 t503 t504 t505 t508 (t504 != t526))) else (none)) else (laws_FnPlacesAndLasts.j0 k l1 t500 t501 t502 t503 t504 t505 t508 false))) else (none)))) else (none))))))))) = some r := H
    have A8 := Aside0.mk A80
    clear A80
    replace H := Option.bind_eq_some_iff.mp H
    obtain ⟨⟨t512, t513⟩, A90, H⟩ := H
    replace H : ((impl_PlacesWon.f k t500 t502 t503).bind fun bt516 => ((spec_PlacesWon.f k t500 t502 t503).bind fun bt520 => (if (t505 != t507) = true then (none) else (if (t504 != t506) = true then (none) else (if (t509 != t513) = true then (none) else ((laws_nSame.f k t508 t512).bind fun t524 => (if t524 = true then (if (bt516.2 != bt520.2) = true then (none) else ((laws_nSame.f k bt516.1 bt520.1).bind fun t525 => (if t525 = true then (if (t509 != t505) = true then (none) else (if t505 = true then (if bt516.2 = true then ((laws_nHas.f k bt516.1 t501).bind fun t526 => (laws_FnPlacesAndLasts.j0 k l1 t500 t501 t502 t503 t504 t505 t508 (t504 != t526))) else (none)) else (laws_FnPlacesAndLasts.j0 k l1 t500 t501 t502 t503 t504 t505 t508 false))) else (none)))) else (none)))))))) = some r := H
    have A9 := Aside0.mk A90
    clear A90
    replace H := Option.bind_eq_some_iff.mp H
    obtain ⟨⟨t516, t517⟩, A100, H⟩ := H
    replace H : ((spec_PlacesWon.f k t500 t502 t503).bind fun bt520 => (if (t505 != t507) = true then (none) else (if (t504 != t506) = true then (none) else (if (t509 != t513) = true then (none) else ((laws_nSame.f k t508 t512).bind fun t524 => (if t524 = true then (if (t517 != bt520.2) = true then (none) else ((laws_nSame.f k t516 bt520.1).bind fun t525 => (if t525 = true then (if (t509 != t505) = true then (none) else (if t505 = true then (if t517 = true then ((laws_nHas.f k t516 t501).bind fun t526 => (laws_FnPlacesAndLasts.j0 k l1 t500 t501 t502 t503 t504 t505 t508 (t504 != t526))) else (none)) else (laws_FnPlacesAndLasts.j0 k l1 t500 t501 t502 t503 t504 t505 t508 false))) else (none)))) else (none))))))) = some r := H
    have A10 := Aside0.mk A100
    clear A100
    replace H := Option.bind_eq_some_iff.mp H
    obtain ⟨⟨t520, t521⟩, A110, H⟩ := H
    replace H : (if (t505 != t507) = true then (none) else (if (t504 != t506) = true then (none) else (if (t509 != t513) = true then (none) else ((laws_nSame.f k t508 t512).bind fun t524 => (if t524 = true then (if (t517 != t521) = true then (none) else ((laws_nSame.f k t516 t520).bind fun t525 => (if t525 = true then (if (t509 != t505) = true then (none) else (if t505 = true then (if t517 = true then ((laws_nHas.f k t516 t501).bind fun t526 => (laws_FnPlacesAndLasts.j0 k l1 t500 t501 t502 t503 t504 t505 t508 (t504 != t526))) else (none)) else (laws_FnPlacesAndLasts.j0 k l1 t500 t501 t502 t503 t504 t505 t508 false))) else (none)))) else (none)))))) = some r := H
    have A11 := Aside0.mk A110
    clear A110
    have HC12 := Aside0.mk H
    clear H
    go_enter Try.func8, Try.ntmps8
    go_upto_region 10 with (first | ((with_reducible refine gate_callee (f := 30) rfl ?_); refine gs (some 48) Try.func30 #[.slice A0 l0.length c0, .slice A1 l1.length c1] ?_; (with_reducible refine (laws_big.calls _ _ l0 _ _ l1 false _ ?side1 ?side2 ?side3 ?side4 A3.out).mono ?_); (case side1 => repeat (first | exact HR0.out | (with_reducible refine Kd.C_alloc ?_ _) | (with_reducible refine Kd.C_drewN ?_ _) | (with_reducible refine Kd.C_drew ?_))); (case side2 => exact HC0.out); (case side3 => repeat (first | exact HR1.out | (with_reducible refine Kd.C_alloc ?_ _) | (with_reducible refine Kd.C_drewN ?_ _) | (with_reducible refine Kd.C_drew ?_))); (case side4 => exact HC1.out); rintro e w' ⟨rfl, ⟨nd, rfl⟩⟩; refine ⟨_, rfl, ?_⟩) | ((with_reducible refine gate_callee (f := 54) rfl ?_); refine gs (some 51) Try.func54 #[.slice A0 l0.length c0] ?_; (with_reducible refine (spec_DrawPlaceWinner.calls _ _ l0 t500 t501 t502 t503 _ ?side1 ?side2 A5.out).mono ?_); (case side1 => repeat (first | exact HR0.out | (with_reducible refine Kd.C_alloc ?_ _) | (with_reducible refine Kd.C_drewN ?_ _) | (with_reducible refine Kd.C_drew ?_))); (case side2 => exact HC0.out); rintro e w13 ⟨rfl, hb⟩; refine ⟨_, rfl, ?_⟩; replace HB := uD HB hb; (try clear hb); (try clear hb2); (try clear hk); (try clear hi)) | ((with_reducible refine gate_callee (f := 55) rfl ?_); refine gs (some 61) Try.func55 #[.int .i64 t500, .int .i64 t501, .int .i64 t502, .int .i64 t503] ?_; (with_reducible refine (impl_PlaceWinner.calls k t500 t501 t502 t503 t504 t505 _ A6.out).mono ?_); rintro e w' ⟨rfl, ⟨nd, rfl⟩⟩; refine ⟨_, rfl, ?_⟩) | ((with_reducible refine gate_callee (f := 56) rfl ?_); refine gs (some 69) Try.func56 #[.int .i64 t500, .int .i64 t501, .int .i64 t502, .int .i64 t503] ?_; (with_reducible refine (spec_PlaceWinner.calls k t500 t501 t502 t503 t506 t507 _ A7.out).mono ?_); rintro e w14 ⟨rfl, hb⟩; refine ⟨_, rfl, ?_⟩; replace HB := uD HB hb; (try clear hb); (try clear hb2); (try clear hk); (try clear hi)) | ((with_reducible refine gate_callee (f := 57) rfl ?_); refine gs (some 77) Try.func57 #[.int .i64 t500, .int .i64 t501, .int .i64 t502, .int .i64 t503] ?_; (with_reducible refine (impl_GoodPlaces.calls k t500 t501 t502 t503 t508 t509 _ A8.out).mono ?_); rintro e w15 ⟨v510, rfl, ho0, hb⟩; refine ⟨_, rfl, ?_⟩; have HO511 := Aside0.mk (Kd.R_lower ho0 (below_size (qD HB))); replace HB := uD HB hb; (try clear hb); (try clear hb2); (try clear hk); (try clear hi); (try clear ho0)) | ((with_reducible refine gate_callee (f := 58) rfl ?_); refine gs (some 85) Try.func58 #[.int .i64 t500, .int .i64 t501, .int .i64 t502, .int .i64 t503] ?_; (with_reducible refine (spec_GoodPlaces.calls k t500 t501 t502 t503 t512 t513 _ A9.out).mono ?_); rintro e w16 ⟨v514, rfl, ho0, hb⟩; refine ⟨_, rfl, ?_⟩; have HO515 := Aside0.mk (Kd.R_lower (Kd.R_new' ho0 (Kd.R_lt (qR HO511))) (below_size (qD HB))); replace HO511 := eR HO511 ho0 hb; replace HB := uD HB hb; (try clear hb); (try clear hb2); (try clear hk); (try clear hi); (try clear ho0)) | ((with_reducible refine gate_callee (f := 59) rfl ?_); refine gs (some 92) Try.func59 #[.int .i64 t500, .int .i64 t502, .int .i64 t503] ?_; (with_reducible refine (impl_PlacesWon.calls k t500 t502 t503 t516 t517 _ A10.out).mono ?_); rintro e w17 ⟨v518, rfl, ho0, hb⟩; refine ⟨_, rfl, ?_⟩; have HO519 := Aside0.mk (Kd.R_lower (Kd.R_new' (Kd.R_new' ho0 (Kd.R_lt (qR HO511))) (Kd.R_lt (qR HO515))) (below_size (qD HB))); replace HO511 := eR HO511 ho0 hb; replace HO515 := eR HO515 ho0 hb; replace HB := uD HB hb; (try clear hb); (try clear hb2); (try clear hk); (try clear hi); (try clear ho0)) | ((with_reducible refine gate_callee (f := 60) rfl ?_); refine gs (some 99) Try.func60 #[.int .i64 t500, .int .i64 t502, .int .i64 t503] ?_; (with_reducible refine (spec_PlacesWon.calls k t500 t502 t503 t520 t521 _ A11.out).mono ?_); rintro e w18 ⟨v522, rfl, ho0, hb⟩; refine ⟨_, rfl, ?_⟩; have HO523 := Aside0.mk (Kd.R_lower (Kd.R_new' (Kd.R_new' (Kd.R_new' ho0 (Kd.R_lt (qR HO511))) (Kd.R_lt (qR HO515))) (Kd.R_lt (qR HO519))) (below_size (qD HB))); replace HO511 := eR HO511 ho0 hb; replace HO515 := eR HO515 ho0 hb; replace HO519 := eR HO519 ho0 hb; replace HB := uD HB hb; (try clear hb); (try clear hb2); (try clear hk); (try clear hi); (try clear ho0)))
    (try simp only [Act.put, List.setIfInBounds_toArray, List.set_cons_zero, List.set_cons_succ])
    go_cut [150] (fun v150 wc => ∃ (kq : Nat) (x150_11 : Bool), v150 = .bool x150_11 ∧ Aside0 (laws_FnPlacesAndLasts.j0 kq l1 t500 t501 t502 t503 t504 t505 t508 x150_11 = some r) ∧ Aside0 (kq ≤ k) ∧ Aside0 (Kd.R (Kd.int .i64) 3 wc w.heap.size (fun _ => True) v510 t508) ∧ Aside0 (Below w.heap.size w wc))
    case first =>
      have H := HC12.out
      clear HC12
      by_cases c19 : (t505 != t507) = true
      · rw [if_pos c19] at H
        exact absurd H (by simp)
      · rw [if_neg c19] at H
        have c19b0 : (t505 != t507) = false := by simpa using c19
        (try (have c19b1 : decide (t505 = t507) = true := by simpa using c19))
        (try (have c19b2 : (t505 == t507) = true := by simpa using c19))
        clear c19
        (first | rw [c19b0] | (simp only [i64_w, i32_w]; rw [c19b0]) | skip)
        by_cases c20 : (t504 != t506) = true
        · rw [if_pos c20] at H
          exact absurd H (by simp)
        · rw [if_neg c20] at H
          have c20b0 : (t504 != t506) = false := by simpa using c20
          (try (have c20b1 : decide (t504 = t506) = true := by simpa using c20))
          (try (have c20b2 : (t504 == t506) = true := by simpa using c20))
          clear c20
          by_cases c21 : (t509 != t513) = true
          · rw [if_pos c21] at H
            exact absurd H (by simp)
          · rw [if_neg c21] at H
            have c21b0 : (t509 != t513) = false := by simpa using c21
            (try (have c21b1 : decide (t509 = t513) = true := by simpa using c21))
            (try (have c21b2 : (t509 == t513) = true := by simpa using c21))
            clear c21
            replace H := Option.bind_eq_some_iff.mp H
            obtain ⟨t524, A220, H⟩ := H
            replace H : (if t524 = true then (if (t517 != t521) = true then (none) else ((laws_nSame.f k t516 t520).bind fun t525 => (if t525 = true then (if (t509 != t505) = true then (none) else (if t505 = true then (if t517 = true then ((laws_nHas.f k t516 t501).bind fun t526 => (laws_FnPlacesAndLasts.j0 k l1 t500 t501 t502 t503 t504 t505 t508 (t504 != t526))) else (none)) else (laws_FnPlacesAndLasts.j0 k l1 t500 t501 t502 t503 t504 t505 t508 false))) else (none)))) else (none)) = some r := H
            have A22 := Aside0.mk A220
            clear A220
            by_cases c23 : t524 = true
            · subst c23
              have H1 : (if (t517 != t521) = true then (none) else ((laws_nSame.f k t516 t520).bind fun t525 => (if t525 = true then (if (t509 != t505) = true then (none) else (if t505 = true then (if t517 = true then ((laws_nHas.f k t516 t501).bind fun t526 => (laws_FnPlacesAndLasts.j0 k l1 t500 t501 t502 t503 t504 t505 t508 (t504 != t526))) else (none)) else (laws_FnPlacesAndLasts.j0 k l1 t500 t501 t502 t503 t504 t505 t508 false))) else (none)))) = some r := by rw [if_pos rfl] at H; exact H
              clear H
              have H := H1
              clear H1
              by_cases c24 : (t517 != t521) = true
              · rw [if_pos c24] at H
                exact absurd H (by simp)
              · rw [if_neg c24] at H
                have c24b0 : (t517 != t521) = false := by simpa using c24
                (try (have c24b1 : decide (t517 = t521) = true := by simpa using c24))
                (try (have c24b2 : (t517 == t521) = true := by simpa using c24))
                clear c24
                replace H := Option.bind_eq_some_iff.mp H
                obtain ⟨t525, A270, H⟩ := H
                replace H : (if t525 = true then (if (t509 != t505) = true then (none) else (if t505 = true then (if t517 = true then ((laws_nHas.f k t516 t501).bind fun t526 => (laws_FnPlacesAndLasts.j0 k l1 t500 t501 t502 t503 t504 t505 t508 (t504 != t526))) else (none)) else (laws_FnPlacesAndLasts.j0 k l1 t500 t501 t502 t503 t504 t505 t508 false))) else (none)) = some r := H
                have A27 := Aside0.mk A270
                clear A270
                by_cases c28 : t525 = true
                · subst c28
                  have H1 : (if (t509 != t505) = true then (none) else (if t505 = true then (if t517 = true then ((laws_nHas.f k t516 t501).bind fun t526 => (laws_FnPlacesAndLasts.j0 k l1 t500 t501 t502 t503 t504 t505 t508 (t504 != t526))) else (none)) else (laws_FnPlacesAndLasts.j0 k l1 t500 t501 t502 t503 t504 t505 t508 false))) = some r := by rw [if_pos rfl] at H; exact H
                  clear H
                  have H := H1
                  clear H1
                  by_cases c29 : (t509 != t505) = true
                  · rw [if_pos c29] at H
                    exact absurd H (by simp)
                  · rw [if_neg c29] at H
                    have c29b0 : (t509 != t505) = false := by simpa using c29
                    (try (have c29b1 : decide (t509 = t505) = true := by simpa using c29))
                    (try (have c29b2 : (t509 == t505) = true := by simpa using c29))
                    clear c29
                    by_cases c34 : t505 = true
                    · subst c34
                      have H1 : (if t517 = true then ((laws_nHas.f k t516 t501).bind fun t526 => (laws_FnPlacesAndLasts.j0 k l1 t500 t501 t502 t503 t504 true t508 (t504 != t526))) else (none)) = some r := by rw [if_pos rfl] at H; exact H
                      clear H
                      have H := H1
                      clear H1
                      by_cases c35 : t517 = true
                      · subst c35
                        have H1 : ((laws_nHas.f k t516 t501).bind fun t526 => (laws_FnPlacesAndLasts.j0 k l1 t500 t501 t502 t503 t504 true t508 (t504 != t526))) = some r := by rw [if_pos rfl] at H; exact H
                        clear H
                        have H := H1
                        clear H1
                        replace H := Option.bind_eq_some_iff.mp H
                        obtain ⟨t526, A360, H⟩ := H
                        replace H : (laws_FnPlacesAndLasts.j0 k l1 t500 t501 t502 t503 t504 true t508 (t504 != t526)) = some r := H
                        have A36 := Aside0.mk A360
                        clear A360
                        have H' := Aside0.mk H
                        clear H
                        obtain ⟨Ao37, co37, eo37⟩ := Kd.R_slice HO511.out
                        subst eo37
                        obtain ⟨Ao38, co38, eo38⟩ := Kd.R_slice HO515.out
                        subst eo38
                        go_wp2_with (first | (go_at_call 61; (with_reducible refine (laws_nSame.calls k _ _ t508 _ _ t512 true _ ?side1 ?side2 ?side3 ?side4 A22.out).mono ?_); (case side1 => exact qC (Kd.R_reads' HO511.out).2.2); (case side2 => exact (Kd.R_reads' HO511.out).2.1); (case side3 => exact qC (Kd.R_reads' HO515.out).2.2); (case side4 => exact (Kd.R_reads' HO515.out).2.1); rintro e w' ⟨rfl, ⟨nd, rfl⟩⟩; obtain ⟨Ao39, co39, eo39⟩ := Kd.R_slice HO519.out; subst eo39; obtain ⟨Ao40, co40, eo40⟩ := Kd.R_slice HO523.out; subst eo40) | (go_at_call 61; (with_reducible refine (laws_nSame.calls k _ _ t516 _ _ t520 true _ ?side1 ?side2 ?side3 ?side4 A27.out).mono ?_); (case side1 => exact qC (Kd.R_reads' HO519.out).2.2); (case side2 => exact (Kd.R_reads' HO519.out).2.1); (case side3 => exact qC (Kd.R_reads' HO523.out).2.2); (case side4 => exact (Kd.R_reads' HO523.out).2.1); rintro e w' ⟨rfl, ⟨nd, rfl⟩⟩) | (go_at_call 62; (with_reducible refine (laws_nHas.calls k _ _ t516 t501 t526 _ ?side1 ?side2 A36.out).mono ?_); (case side1 => exact qC (Kd.R_reads' HO519.out).2.2); (case side2 => exact (Kd.R_reads' HO519.out).2.1); rintro e w' ⟨rfl, ⟨nd, rfl⟩⟩))
                        go_meet
                        case rel => exact ⟨_, ((t504 != t526)), (by first | rfl | (simp; done) | (simp [*]; done) | (simp [bne]; done)), H', ⟨by first | omega | exact Nat.le_refl _⟩, ⟨mR HO511 (fun _ hk => trivial)⟩, ⟨qD HB⟩⟩
                      · replace c35 := Bool.eq_false_iff.mpr c35
                        subst c35
                        have H1 : (none) = some r := by rw [if_neg (show ¬ (false = true) by decide)] at H; exact H
                        exact absurd H1 (by simp)
                    · replace c34 := Bool.eq_false_iff.mpr c34
                      subst c34
                      have H1 : (laws_FnPlacesAndLasts.j0 k l1 t500 t501 t502 t503 t504 false t508 false) = some r := by rw [if_neg (show ¬ (false = true) by decide)] at H; exact H
                      clear H
                      have H := H1
                      clear H1
                      have H' := Aside0.mk H
                      clear H
                      obtain ⟨Ao45, co45, eo45⟩ := Kd.R_slice HO511.out
                      subst eo45
                      obtain ⟨Ao46, co46, eo46⟩ := Kd.R_slice HO515.out
                      subst eo46
                      go_wp2_with (first | (go_at_call 61; (with_reducible refine (laws_nSame.calls k _ _ t508 _ _ t512 true _ ?side1 ?side2 ?side3 ?side4 A22.out).mono ?_); (case side1 => exact qC (Kd.R_reads' HO511.out).2.2); (case side2 => exact (Kd.R_reads' HO511.out).2.1); (case side3 => exact qC (Kd.R_reads' HO515.out).2.2); (case side4 => exact (Kd.R_reads' HO515.out).2.1); rintro e w' ⟨rfl, ⟨nd, rfl⟩⟩; obtain ⟨Ao47, co47, eo47⟩ := Kd.R_slice HO519.out; subst eo47; obtain ⟨Ao48, co48, eo48⟩ := Kd.R_slice HO523.out; subst eo48) | (go_at_call 61; (with_reducible refine (laws_nSame.calls k _ _ t516 _ _ t520 true _ ?side1 ?side2 ?side3 ?side4 A27.out).mono ?_); (case side1 => exact qC (Kd.R_reads' HO519.out).2.2); (case side2 => exact (Kd.R_reads' HO519.out).2.1); (case side3 => exact qC (Kd.R_reads' HO523.out).2.2); (case side4 => exact (Kd.R_reads' HO523.out).2.1); rintro e w' ⟨rfl, ⟨nd, rfl⟩⟩))
                      go_meet
                      case rel => exact ⟨_, (false), (by first | rfl | (simp; done) | (simp [*]; done) | (simp [bne]; done)), H', ⟨by first | omega | exact Nat.le_refl _⟩, ⟨mR HO511 (fun _ hk => trivial)⟩, ⟨qD HB⟩⟩
                · replace c28 := Bool.eq_false_iff.mpr c28
                  subst c28
                  have H1 : (none) = some r := by rw [if_neg (show ¬ (false = true) by decide)] at H; exact H
                  exact absurd H1 (by simp)
            · replace c23 := Bool.eq_false_iff.mpr c23
              subst c23
              have H1 : (none) = some r := by rw [if_neg (show ¬ (false = true) by decide)] at H; exact H
              exact absurd H1 (by simp)
    case rest =>
      clear HC12
      try clear c1
      try clear c2
      try clear p2
      try clear c3
      try clear c4
      try clear c5
      try clear c6
      try clear c8
      try clear c19
      try clear c19b0
      try clear c19b1
      try clear c19b2
      try clear c20
      try clear c20b0
      try clear c20b1
      try clear c20b2
      try clear c21
      try clear c21b0
      try clear c21b1
      try clear c21b2
      try clear c23
      try clear c24
      try clear c24b0
      try clear c24b1
      try clear c24b2
      try clear c28
      try clear c29
      try clear c29b0
      try clear c29b1
      try clear c29b2
      try clear c30
      try clear c34
      try clear c35
      try clear c54
      obtain ⟨kq, x150_11, rfl, HA, HJ11, HO_13, HB⟩ := hcut
      rename_i K2_ hK2_ K1_ hK_
      exact hK_ _ _ (laws_FnPlacesAndLasts.tail9 nd HR1 HC1 HA HJ11 HO_13 HB hK2_)
theorem laws_FnPlacesAndLasts.walk (P : laws_FnPlacesAndLasts.Pure) (a0 : Option Addr) (len0 cap0 : Nat) (z0 : List Int) (a1 : Option Addr) (len1 cap1 : Nat) (z1 : List Int) (w : World) (w0 : (a0 = none ∧ len0 = 0 ∧ cap0 = 0 ∧ z0 = []) ∨ ∃ x, a0 = some x ∧ len0 ≤ cap0 ∧ cap0 ≤ maxLen ∧ z0.length = cap0 ∧ (∀ i, i < z0.length → w.cell? (x.add i) = some (.int .u8 (z0.getD i 0))) ∧ ∀ n ∈ z0, (Lit.int .u8 n).wf = true) (y0 : len0 * 1 ≤ 140737488351232) (w1 : (a1 = none ∧ len1 = 0 ∧ cap1 = 0 ∧ z1 = []) ∨ ∃ x, a1 = some x ∧ len1 ≤ cap1 ∧ cap1 ≤ maxLen ∧ z1.length = cap1 ∧ (∀ i, i < z1.length → w.cell? (x.add i) = some (.int .u8 (z1.getD i 0))) ∧ ∀ n ∈ z1, (Lit.int .u8 n).wf = true) (y1 : len1 * 1 ≤ 140737488351232) :
    Calls Try.prog 8 #[.slice a0 len0 cap0, .slice a1 len1 cap1] w fun e w' => e = .returned (.bool true) ∧ Below w.heap.size w w' := by
  obtain ⟨l0, rfl, hr0, hm0, hw0, hc0⟩ := ReadsInt.ofRowC w0
  obtain ⟨l1, rfl, hr1, hm1, hw1, hc1⟩ := ReadsInt.ofRowC w1
  obtain ⟨k, h⟩ := P l0 l1 hm0 y0 hw0 hm1 y1 hw1
  refine (laws_FnPlacesAndLasts.calls k _ _ l0 _ _ l1 true w (Kd.C_of_reads (d := (0 : Int)) (h1 := fun _ => rfl) hr0) hc0 (Kd.C_of_reads (d := (0 : Int)) (h1 := fun _ => rfl) hr1) hc1 h).mono ?_
  rintro e w' ⟨rfl, hd⟩
  exact ⟨rfl, hd⟩

end Go.Proofs.Ytlmlamkbedfmhaa.P
end
