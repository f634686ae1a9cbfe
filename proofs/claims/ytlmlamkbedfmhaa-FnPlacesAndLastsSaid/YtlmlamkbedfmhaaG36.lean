-- Put together by wip/merge.py (a program of this session's) out of this claim's texts; Lean checks it.
import Derived.Test.YtlmlamkbedfmhaaG35
import Derived.Test.YtlmlamkbedfmhaaG32
import Derived.Test.YtlmlamkbedfmhaaG22
import Derived.Test.YtlmlamkbedfmhaaG23
import Derived.Test.YtlmlamkbedfmhaaG25
import Derived.Test.YtlmlamkbedfmhaaG26
import Derived.Test.YtlmlamkbedfmhaaG27
section
namespace Go.Proofs.Ytlmlamkbedfmhaa.P
open Go.RowKit Go.Proofs.YtlmlamkbedfmhaaW.PrintWords Go.Proofs.YtlmlamkbedfmhaaW.PrintLast Go.Proofs.YtlmlamkbedfmhaaW.PrintMore
attribute [local go_sem] max2_int min2_int max_two min_two max_three min_three max_four min_four   -- for this text's walks alone
set_option linter.unusedVariables false
set_option linter.unusedSimpArgs false

set_option maxHeartbeats 8000000 in
set_option maxRecDepth 100000 in
theorem laws_FnPlacesAndLasts.tail9 {k : Nat} {A0 : Option Addr} {c0 : Nat} {l0 : List Int} {A1 : Option Addr} {c1 : Nat} {l1 : List Int} {r : Bool} {w : World} {t500 t501 t502 t503 : Int} {t504 t505 t506 t507 : Bool} {t508 : List Int} {t509 t513 t517 t521 : Bool} {v510 v514 v518 v522 : Value} {wc : World} {u46 u47 u48 u49 u50 u51 u52 u53 u54 u55 u56 u57 u58 u59 u60 u61 u62 u63 u64 u65 u66 u67 u68 u69 u70 u71 u72 u73 u74 u75 u76 u77 u78 u79 u80 u81 u82 u83 u84 u85 u86 u87 u88 u89 u90 u91 u92 u93 u94 u95 u96 u97 u98 u99 u100 u101 u102 u103 u104 u105 u106 u107 u108 u109 u110 u111 u112 u113 u114 u115 u116 u117 u118 u119 u120 u121 u122 u123 u124 u125 u126 u127 u128 u129 u130 u131 u132 u133 u134 u135 u136 u137 u138 u139 u140 u141 u142 u143 u144 u145 u146 u147 u148 u149 u151 u152 u153 u154 u155 u156 u157 u158 u159 u160 u161 u162 u163 u164 u165 u166 u167 u168 u169 u170 u171 u172 u173 u174 u175 u176 u177 u178 u182 u183 u184 u185 u186 u187 u188 u189 u190 u191 u192 u193 u194 u195 u196 u197 u198 u199 u200 u201 u202 u203 u204 u205 u206 u207 u208 u209 u210 u211 u212 u213 u214 u215 u216 u217 u218 u219 u220 u221 u222 u223 u224 u225 u226 u227 u228 u229 u230 u231 u232 u233 u234 u235 u236 u237 u238 u239 u240 u241 u242 u243 u244 u245 u246 u247 u248 u249 u250 u251 u252 u253 u254 u255 u256 u257 u258 u259 u260 u261 u262 u263 u264 u265 u266 u267 u268 u269 u270 u271 u272 u273 u274 u275 u276 u277 u278 u279 u280 u281 u282 u283 u284 u285 u286 u287 u288 u289 u290 u291 u292 u293 u294 u295 u296 u297 u298 u299 u300 u301 u302 u303 u304 u305 u306 u307 u308 u309 u310 u311 u312 u313 u314 u315 u316 u317 u318 u319 u320 u321 u322 u323 u324 u325 u326 u327 u328 u329 u330 u331 u332 u333 u334 u335 u336 u337 u338 u339 u340 u341 : Value} {kq : Nat} {x150_11 : Bool} (nd : Nat) (HR1 : Aside0 ((Kd.int IntKind.u8).C w A1 l1.length l1)) (HC1 : Aside0 (l1.length ≤ c1)) (HA : Aside0 (j0 kq l1 t500 t501 t502 t503 t504 t505 t508 x150_11 = some r)) (HJ11 : Aside0 (kq ≤ k)) (HO_13 : Aside0 ((Kd.int IntKind.i64).R 3 wc w.heap.size (fun x => True) v510 t508)) (HB : Aside0 (Below w.heap.size w wc)) {K2_ : Act → World → Prop} (hK2_ : ∀ (a : Act) (w_ : World), Code.wp Try.prog (sndC (sndC (sndC (sndC (sndC (sndC (sndC (sndC (sndC (sndC ((Try.f8.body.getD .skip)))))))))))) (bodyPost Try.prog Try.f8 fun e w' => e = .returned (.bool r) ∧ Below w.heap.size w w') a w_ → K2_ a w_) :
    Code.wp Try.prog (sndC (fstC (sndC (sndC (sndC (sndC (sndC (sndC (sndC (sndC (sndC ((Try.f8.body.getD .skip))))))))))))) (Exit.then K2_ (bodyPost Try.prog Try.f8 fun e w' => e = .returned (.bool r) ∧ Below w.heap.size w w')) { tmps := List.toArray (Value.slice A0 l0.length c0 :: Value.slice A1 l1.length c1 :: undef :: undef :: Value.bool false :: Value.int IntKind.i64 t500 :: Value.int IntKind.i64 t501 :: Value.int IntKind.i64 t502 :: Value.int IntKind.i64 t503 :: Value.bool t504 :: Value.bool t505 :: Value.bool t506 :: Value.bool t507 :: v510 :: Value.bool t509 :: v514 :: Value.bool t513 :: v518 :: Value.bool t517 :: v522 :: Value.bool t521 :: undef :: undef :: undef :: undef :: undef :: undef :: undef :: undef :: undef :: undef :: undef :: undef :: undef :: undef :: undef :: undef :: undef :: undef :: undef :: undef :: undef :: undef :: undef :: undef :: undef :: u46 :: u47 :: u48 :: u49 :: u50 :: u51 :: u52 :: u53 :: u54 :: u55 :: u56 :: u57 :: u58 :: u59 :: u60 :: u61 :: u62 :: u63 :: u64 :: u65 :: u66 :: u67 :: u68 :: u69 :: u70 :: u71 :: u72 :: u73 :: u74 :: u75 :: u76 :: u77 :: u78 :: u79 :: u80 :: u81 :: u82 :: u83 :: u84 :: u85 :: u86 :: u87 :: u88 :: u89 :: u90 :: u91 :: u92 :: u93 :: u94 :: u95 :: u96 :: u97 :: u98 :: u99 :: u100 :: u101 :: u102 :: u103 :: u104 :: u105 :: u106 :: u107 :: u108 :: u109 :: u110 :: u111 :: u112 :: u113 :: u114 :: u115 :: u116 :: u117 :: u118 :: u119 :: u120 :: u121 :: u122 :: u123 :: u124 :: u125 :: u126 :: u127 :: u128 :: u129 :: u130 :: u131 :: u132 :: u133 :: u134 :: u135 :: u136 :: u137 :: u138 :: u139 :: u140 :: u141 :: u142 :: u143 :: u144 :: u145 :: u146 :: u147 :: u148 :: u149 :: Value.bool x150_11 :: u151 :: u152 :: u153 :: u154 :: u155 :: u156 :: u157 :: u158 :: u159 :: u160 :: u161 :: u162 :: u163 :: u164 :: u165 :: u166 :: u167 :: u168 :: u169 :: u170 :: u171 :: u172 :: u173 :: u174 :: u175 :: u176 :: u177 :: u178 :: undef :: undef :: undef :: u182 :: u183 :: u184 :: u185 :: u186 :: u187 :: u188 :: u189 :: u190 :: u191 :: u192 :: u193 :: u194 :: u195 :: u196 :: u197 :: u198 :: u199 :: u200 :: u201 :: u202 :: u203 :: u204 :: u205 :: u206 :: u207 :: u208 :: u209 :: u210 :: u211 :: u212 :: u213 :: u214 :: u215 :: u216 :: u217 :: u218 :: u219 :: u220 :: u221 :: u222 :: u223 :: u224 :: u225 :: u226 :: u227 :: u228 :: u229 :: u230 :: u231 :: u232 :: u233 :: u234 :: u235 :: u236 :: u237 :: u238 :: u239 :: u240 :: u241 :: u242 :: u243 :: u244 :: u245 :: u246 :: u247 :: u248 :: u249 :: u250 :: u251 :: u252 :: u253 :: u254 :: u255 :: u256 :: u257 :: u258 :: u259 :: u260 :: u261 :: u262 :: u263 :: u264 :: u265 :: u266 :: u267 :: u268 :: u269 :: u270 :: u271 :: u272 :: u273 :: u274 :: u275 :: u276 :: u277 :: u278 :: u279 :: u280 :: u281 :: u282 :: u283 :: u284 :: u285 :: u286 :: u287 :: u288 :: u289 :: u290 :: u291 :: u292 :: u293 :: u294 :: u295 :: u296 :: u297 :: u298 :: u299 :: u300 :: u301 :: u302 :: u303 :: u304 :: u305 :: u306 :: u307 :: u308 :: u309 :: u310 :: u311 :: u312 :: u313 :: u314 :: u315 :: u316 :: u317 :: u318 :: u319 :: u320 :: u321 :: u322 :: u323 :: u324 :: u325 :: u326 :: u327 :: u328 :: u329 :: u330 :: u331 :: u332 :: u333 :: u334 :: u335 :: u336 :: u337 :: u338 :: u339 :: u340 :: u341 :: []), defers := [] } wc := by
  conv => arg 2; whnf
  conv at hK2_ => enter [a, w_, 1, 2]; whnf
  cases kq with
  | zero => exact absurd HA.out (by simp [laws_FnPlacesAndLasts.j0])
  | succ kj11 =>
    have H := HA.out
    clear HA
    simp only [laws_FnPlacesAndLasts.j0] at H
    by_cases c55 : x150_11 = true
    · subst c55
      have H1 : (none) = some r := by rw [if_pos rfl] at H; exact H
      exact absurd H1 (by simp)
    · replace c55 := Bool.eq_false_iff.mpr c55
      subst c55
      have H1 : (if t505 = true then (if t503 = 0 then (if (t504 != (t501 == t502)) = true then (none) else (if (t508.length : Int) = 0 then (if t503 > 0 then (none) else (laws_FnPlacesAndLasts.j1 kj11 l1 t500 t501 t502 t503 t508 false)) else (none))) else (if t503 > 0 then (laws_FnPlacesAndLasts.j1 kj11 l1 t500 t501 t502 t503 t508 (t504 != (decide ((t508.length : Int) > 0)))) else (none))) else (laws_FnPlacesAndLasts.j5 kj11 l1)) = some r := by rw [if_neg (show ¬ (false = true) by decide)] at H; exact H
      clear H
      have H := H1
      clear H1
      have HC56 := Aside0.mk H
      clear H
      go_upto_if 151 with (fail)
      go_cut [] (fun wc => ∃ (kq : Nat), Aside0 (laws_FnPlacesAndLasts.j5 kq l1 = some r) ∧ Aside0 (kq ≤ kj11) ∧ Aside0 (Below w.heap.size w wc))
      case first =>
        have H := HC56.out
        clear HC56
        by_cases c57 : t505 = true
        · subst c57
          have H1 : (if t503 = 0 then (if (t504 != (t501 == t502)) = true then (none) else (if (t508.length : Int) = 0 then (if t503 > 0 then (none) else (laws_FnPlacesAndLasts.j1 kj11 l1 t500 t501 t502 t503 t508 false)) else (none))) else (if t503 > 0 then (laws_FnPlacesAndLasts.j1 kj11 l1 t500 t501 t502 t503 t508 (t504 != (decide ((t508.length : Int) > 0)))) else (none))) = some r := by rw [if_pos rfl] at H; exact H
          clear H
          have H := H1
          clear H1
          have HC58 := Aside0.mk H
          clear H
          go_upto_region 13 with (fail)
          go_cut [176] (fun v176 wc => ∃ (kq : Nat) (x176_57 : Bool), v176 = .bool x176_57 ∧ Aside0 (laws_FnPlacesAndLasts.j1 kq l1 t500 t501 t502 t503 t508 x176_57 = some r) ∧ Aside0 (kq ≤ kj11) ∧ Aside0 (Kd.R (Kd.int .i64) 3 wc w.heap.size (fun _ => True) v510 t508) ∧ Aside0 (Below w.heap.size w wc))
          case first =>
            have H := HC58.out
            clear HC58
            by_cases c59 : t503 = 0
            · rw [if_pos c59] at H
              have c59b0 : (t503 == 0) = true := beq_iff_eq.mpr c59
              have c59b1 : (t503 != 0) = false := bne_eq_false_iff_eq.mpr c59
              clear c59
              (first | rw [c59b0] | (simp only [i64_w, i32_w]; rw [c59b0]) | skip)
              by_cases c60 : (t504 != (t501 == t502)) = true
              · rw [if_pos c60] at H
                exact absurd H (by simp)
              · rw [if_neg c60] at H
                have c60b0 : (t504 != (t501 == t502)) = false := by simpa using c60
                (try (have c60b1 : decide (t504 = (t501 == t502)) = true := by simpa using c60))
                (try (have c60b2 : (t504 == (t501 == t502)) = true := by simpa using c60))
                clear c60
                by_cases c61 : (t508.length : Int) = 0
                · rw [if_pos c61] at H
                  have c61b0 : ((t508.length : Int) == 0) = true := beq_iff_eq.mpr c61
                  have c61b1 : ((t508.length : Int) != 0) = false := bne_eq_false_iff_eq.mpr c61
                  clear c61
                  by_cases c62 : t503 > 0
                  · rw [if_pos c62] at H
                    exact absurd H (by simp)
                  · rw [if_neg c62] at H
                    have c62b0 : decide (0 < t503) = false := decide_eq_false c62
                    clear c62
                    have H' := Aside0.mk H
                    clear H
                    obtain ⟨Ao64, co64, eo64⟩ := Kd.R_slice HO_13.out
                    subst eo64
                    go_wp2
                    go_meet
                    case rel => exact ⟨_, (false), (by first | rfl | (simp; done) | (simp [*]; done) | (simp [bne]; done)), H', ⟨by have := HJ11.out; first | omega | exact Nat.le_refl _⟩, ⟨qR HO_13⟩, ⟨qD HB⟩⟩
                · rw [if_neg c61] at H
                  exact absurd H (by simp)
            · rw [if_neg c59] at H
              have c59b0 : (t503 == 0) = false := beq_eq_false_iff_ne.mpr c59
              have c59b1 : (t503 != 0) = true := bne_iff_ne.mpr c59
              (first | rw [c59b0] | (simp only [i64_w, i32_w]; rw [c59b0]) | skip)
              by_cases c66 : t503 > 0
              · rw [if_pos c66] at H
                have c66b0 : decide (0 < t503) = true := decide_eq_true c66
                clear c66
                have H' := Aside0.mk H
                clear H
                obtain ⟨Ao67, co67, eo67⟩ := Kd.R_slice HO_13.out
                subst eo67
                go_wp2
                go_meet
                case rel => exact ⟨_, ((t504 != (decide ((t508.length : Int) > 0)))), (by first | rfl | (simp; done) | (simp [*]; done) | (simp [bne]; done)), H', ⟨by have := HJ11.out; first | omega | exact Nat.le_refl _⟩, ⟨qR HO_13⟩, ⟨qD HB⟩⟩
              · rw [if_neg c66] at H
                exact absurd H (by simp)
          case rest =>
            clear HC58
            try clear c1
            try clear c2
            try clear p2
            try clear c3
            try clear c4
            try clear c5
            try clear c6
            try clear c8
            try clear c19
            try clear c19b0
            try clear c19b1
            try clear c19b2
            try clear c20
            try clear c20b0
            try clear c20b1
            try clear c20b2
            try clear c21
            try clear c21b0
            try clear c21b1
            try clear c21b2
            try clear c23
            try clear c24
            try clear c24b0
            try clear c24b1
            try clear c24b2
            try clear c28
            try clear c29
            try clear c29b0
            try clear c29b1
            try clear c29b2
            try clear c30
            try clear c34
            try clear c35
            try clear c54
            try clear c55
            try clear c56
            try clear c57
            try clear c58
            try clear c59
            try clear c59b0
            try clear c59b1
            try clear c60
            try clear c60b0
            try clear c60b1
            try clear c60b2
            try clear c61
            try clear c61b0
            try clear c61b1
            try clear c61b2
            try clear c62
            try clear c62b0
            try clear c66
            try clear c66b0
            try clear p2
            obtain ⟨kq, x176_57, rfl, HA, HJ57, HO_13, HB⟩ := hcut
            rename_i J_ K'_ hM_ hJ_ K1_ hK1_ K_ hK_
            exact hK_ _ _ (laws_FnPlacesAndLasts.tail404 nd HJ11 HA HJ57 HO_13 HB hM_ hJ_ hK1_)
        · replace c57 := Bool.eq_false_iff.mpr c57
          subst c57
          have H1 : (laws_FnPlacesAndLasts.j5 kj11 l1) = some r := by rw [if_neg (show ¬ (false = true) by decide)] at H; exact H
          clear H
          have H := H1
          clear H1
          have H' := Aside0.mk H
          clear H
          go_wp2
          go_meet
          case rel => exact ⟨_, H', ⟨by have := HJ11.out; first | omega | exact Nat.le_refl _⟩, ⟨qD HB⟩⟩
      case rest =>
        clear HC56
        try clear c1
        try clear c2
        try clear p2
        try clear c3
        try clear c4
        try clear c5
        try clear p5
        try clear q5
        try clear hx5
        try clear c6
        try clear p6
        try clear c7
        try clear c8
        try clear c19
        try clear c19b0
        try clear c19b1
        try clear c19b2
        try clear c20
        try clear c20b0
        try clear c20b1
        try clear c20b2
        try clear c21
        try clear c21b0
        try clear c21b1
        try clear c21b2
        try clear c23
        try clear c24
        try clear c24b0
        try clear c24b1
        try clear c24b2
        try clear c28
        try clear c29
        try clear c29b0
        try clear c29b1
        try clear c29b2
        try clear c30
        try clear c34
        try clear c35
        try clear p52
        try clear q52
        try clear hx52
        try clear c54
        try clear c55
        try clear c56
        try clear c57
        try clear c58
        try clear c59
        try clear c59b0
        try clear c59b1
        try clear c60
        try clear c60b0
        try clear c60b1
        try clear c60b2
        try clear c61
        try clear c61b0
        try clear c61b1
        try clear c61b2
        try clear c62
        try clear c62b0
        try clear p64
        try clear c66
        try clear c66b0
        try clear c68
        try clear c69
        try clear c69b0
        try clear c71
        try clear c71b0
        try clear c72
        try clear c72b0
        try clear c73
        try clear c73b0
        try clear c75
        try clear c75b0
        try clear c75b1
        try clear c76
        try clear c76b0
        try clear c76b1
        try clear c77
        try clear c77b0
        try clear c78
        try clear c78b0
        try clear c78b1
        try clear c80
        try clear c81
        try clear c82
        try clear c82b0
        try clear c82b1
        try clear c84
        try clear c85
        try clear c87
        try clear c88
        try clear hx527_0
        try clear p2
        try clear p5
        try clear p52
        try clear p527
        try clear p6
        try clear p64
        try clear q5
        try clear q52
        try clear q527
        obtain ⟨kq, HA, HJ55, HB⟩ := hcut
        rename_i hK_
        exact hK_ _ _ (laws_FnPlacesAndLasts.tail11 nd HR1 HC1 HJ11 HA HJ55 HB)

end Go.Proofs.Ytlmlamkbedfmhaa.P
end
