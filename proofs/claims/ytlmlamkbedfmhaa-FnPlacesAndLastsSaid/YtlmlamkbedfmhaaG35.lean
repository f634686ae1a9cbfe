-- Put together by wip/merge.py (a program of this session's) out of this claim's texts; Lean checks it.
import Derived.Test.YtlmlamkbedfmhaaG34
import Derived.Test.YtlmlamkbedfmhaaG32
import Derived.Test.YtlmlamkbedfmhaaG22
import Derived.Test.YtlmlamkbedfmhaaG23
import Derived.Test.YtlmlamkbedfmhaaG25
import Derived.Test.YtlmlamkbedfmhaaG26
import Derived.Test.YtlmlamkbedfmhaaG27
section
namespace Go.Proofs.Ytlmlamkbedfmhaa.P
open Go.RowKit Go.Proofs.YtlmlamkbedfmhaaW.PrintWords Go.Proofs.YtlmlamkbedfmhaaW.PrintLast Go.Proofs.YtlmlamkbedfmhaaW.PrintMore
attribute [local go_sem] max2_int min2_int max_two min_two max_three min_three max_four min_four   -- for this text's walks alone
set_option linter.unusedVariables false
set_option linter.unusedSimpArgs false

set_option maxHeartbeats 8000000 in
set_option maxRecDepth 100000 in
theorem laws_FnPlacesAndLasts.tail404 {k : Nat} {A0 : Option Addr} {c0 : Nat} {l0 : List Int} {A1 : Option Addr} {c1 : Nat} {l1 : List Int} {r : Bool} {w : World} {t500 t501 t502 t503 : Int} {t504 t506 t507 : Bool} {t508 : List Int} {t509 t513 t517 t521 : Bool} {v510 v514 v518 v522 : Value} {kj11 : Nat} {wc : World} {u46 u47 u48 u49 u50 u51 u52 u53 u54 u55 u56 u57 u58 u59 u60 u61 u62 u63 u64 u65 u66 u67 u68 u69 u70 u71 u72 u73 u74 u75 u76 u77 u78 u79 u80 u81 u82 u83 u84 u85 u86 u87 u88 u89 u90 u91 u92 u93 u94 u95 u96 u97 u98 u99 u100 u101 u102 u103 u104 u105 u106 u107 u108 u109 u110 u111 u112 u113 u114 u115 u116 u117 u118 u119 u120 u121 u122 u123 u124 u125 u126 u127 u128 u129 u130 u131 u132 u133 u134 u135 u136 u137 u138 u139 u140 u141 u142 u143 u144 u145 u146 u147 u148 u149 u150 u151 u152 u153 u154 u155 u156 u157 u158 u159 u160 u161 u162 u163 u164 u165 u166 u167 u168 u169 u170 u171 u172 u173 u174 u175 u177 u178 u182 u183 u184 u185 u186 u187 u188 u189 u190 u191 u192 u193 u194 u195 u196 u197 u198 u199 u200 u201 u202 u203 u204 u205 u206 u207 u208 u209 u210 u211 u212 u213 u214 u215 u216 u217 u218 u219 u220 u221 u222 u223 u224 u225 u226 u227 u228 u229 u230 u231 u232 u233 u234 u235 u236 u237 u238 u239 u240 u241 u242 u243 u244 u245 u246 u247 u248 u249 u250 u251 u252 u253 u254 u255 u256 u257 u258 u259 u260 u261 u262 u263 u264 u265 u266 u267 u268 u269 u270 u271 u272 u273 u274 u275 u276 u277 u278 u279 u280 u281 u282 u283 u284 u285 u286 u287 u288 u289 u290 u291 u292 u293 u294 u295 u296 u297 u298 u299 u300 u301 u302 u303 u304 u305 u306 u307 u308 u309 u310 u311 u312 u313 u314 u315 u316 u317 u318 u319 u320 u321 u322 u323 u324 u325 u326 u327 u328 u329 u330 u331 u332 u333 u334 u335 u336 u337 u338 u339 u340 u341 : Value} {kq : Nat} {x176_57 : Bool} (nd : Nat) (HJ11 : Aside0 (kj11 + 1 ≤ k)) (HA : Aside0 (j1 kq l1 t500 t501 t502 t503 t508 x176_57 = some r)) (HJ57 : Aside0 (kq ≤ kj11)) (HO_13 : Aside0 ((Kd.int IntKind.i64).R 3 wc w.heap.size (fun x => True) v510 t508)) (HB : Aside0 (Below w.heap.size w wc)) {J_ K'_ K1_ : Act → World → Prop} (hM_ : ∀ (a' : Act) (w' : World), Met J_ a' w' → K'_ a' w') (hJ_ :  ∀ (a' : Act) (w' : World), (∃ u4 u22 u23 u24 u25 u26 u27 u46 u47 u48 u49 u50 u51 u52 u53 u54 u55 u56 u57 u58 u59 u60 u61 u62 u63 u64 u65 u66 u67 u68 u69 u70 u71 u72 u73 u74 u75 u76 u77 u78 u79 u80 u81 u82 u83 u84 u85 u86 u87 u88 u89 u90 u91 u92 u93 u94 u95 u96 u97 u98 u99 u100 u101 u102 u103 u104 u105 u106 u107 u108 u109 u110 u111 u112 u113 u114 u115 u116 u117 u118 u119 u120 u121 u122 u123 u124 u125 u126 u127 u128 u129 u130 u131 u132 u133 u134 u135 u136 u137 u138 u139 u140 u141 u142 u143 u144 u145 u146 u147 u148 u149 u150 u151 u152 u153 u154 u155 u156 u157 u158 u159 u160 u161 u162 u163 u164 u165 u166 u167 u168 u169 u170 u171 u172 u173 u174 u175 u176 u177 u178 u179 u180 u181 u182 u183 u184 u185 u186 u187 u188 u189 u190 u191 u192 u193 u194 u195 u196 u197 u198 u199 u200 u201 u202 u203 u204 u205 u206 u207 u208 u209 u210 u211 u212 u213 u214 u215 u216 u217 u218 u219 u220 u221 u222 u223 u224 u225 u226 u227 u228 u229 u230 u231 u232 u233 u234 u235 u236 u237 u238 u239 u240 u241 u242 u243 u244 u245 u246 u247 u248 u249 u250 u251 u252 u253 u254 u255 u256 u257 u258 u259 u260 u261 u262 u263 u264 u265 u266 u267 u268 u269 u270 u271 u272 u273 u274 u275 u276 u277 u278 u279 u280 u281 u282 u283 u284 u285 u286 u287 u288 u289 u290 u291 u292 u293 u294 u295 u296 u297 u298 u299 u300 u301 u302 u303 u304 u305 u306 u307 u308 u309 u310 u311 u312 u313 u314 u315 u316 u317 u318 u319 u320 u321 u322 u323 u324 u325 u326 u327 u328 u329 u330 u331 u332 u333 u334 u335 u336 u337 u338 u339 u340 u341 : Value, (∃ kq, Aside0 (j5 kq l1 = some r) ∧ Aside0 (kq ≤ kj11) ∧ Aside0 (Below w.heap.size w w')) ∧ a' = { tmps := List.toArray (Value.slice A0 l0.length c0 :: Value.slice A1 l1.length c1 :: undef :: undef :: u4 :: Value.int IntKind.i64 t500 :: Value.int IntKind.i64 t501 :: Value.int IntKind.i64 t502 :: Value.int IntKind.i64 t503 :: Value.bool t504 :: Value.bool true :: Value.bool t506 :: Value.bool t507 :: v510 :: Value.bool t509 :: v514 :: Value.bool t513 :: v518 :: Value.bool t517 :: v522 :: Value.bool t521 :: undef :: u22 :: u23 :: u24 :: u25 :: u26 :: u27 :: undef :: undef :: undef :: undef :: undef :: undef :: undef :: undef :: undef :: undef :: undef :: undef :: undef :: undef :: undef :: undef :: undef :: undef :: u46 :: u47 :: u48 :: u49 :: u50 :: u51 :: u52 :: u53 :: u54 :: u55 :: u56 :: u57 :: u58 :: u59 :: u60 :: u61 :: u62 :: u63 :: u64 :: u65 :: u66 :: u67 :: u68 :: u69 :: u70 :: u71 :: u72 :: u73 :: u74 :: u75 :: u76 :: u77 :: u78 :: u79 :: u80 :: u81 :: u82 :: u83 :: u84 :: u85 :: u86 :: u87 :: u88 :: u89 :: u90 :: u91 :: u92 :: u93 :: u94 :: u95 :: u96 :: u97 :: u98 :: u99 :: u100 :: u101 :: u102 :: u103 :: u104 :: u105 :: u106 :: u107 :: u108 :: u109 :: u110 :: u111 :: u112 :: u113 :: u114 :: u115 :: u116 :: u117 :: u118 :: u119 :: u120 :: u121 :: u122 :: u123 :: u124 :: u125 :: u126 :: u127 :: u128 :: u129 :: u130 :: u131 :: u132 :: u133 :: u134 :: u135 :: u136 :: u137 :: u138 :: u139 :: u140 :: u141 :: u142 :: u143 :: u144 :: u145 :: u146 :: u147 :: u148 :: u149 :: u150 :: u151 :: u152 :: u153 :: u154 :: u155 :: u156 :: u157 :: u158 :: u159 :: u160 :: u161 :: u162 :: u163 :: u164 :: u165 :: u166 :: u167 :: u168 :: u169 :: u170 :: u171 :: u172 :: u173 :: u174 :: u175 :: u176 :: u177 :: u178 :: u179 :: u180 :: u181 :: u182 :: u183 :: u184 :: u185 :: u186 :: u187 :: u188 :: u189 :: u190 :: u191 :: u192 :: u193 :: u194 :: u195 :: u196 :: u197 :: u198 :: u199 :: u200 :: u201 :: u202 :: u203 :: u204 :: u205 :: u206 :: u207 :: u208 :: u209 :: u210 :: u211 :: u212 :: u213 :: u214 :: u215 :: u216 :: u217 :: u218 :: u219 :: u220 :: u221 :: u222 :: u223 :: u224 :: u225 :: u226 :: u227 :: u228 :: u229 :: u230 :: u231 :: u232 :: u233 :: u234 :: u235 :: u236 :: u237 :: u238 :: u239 :: u240 :: u241 :: u242 :: u243 :: u244 :: u245 :: u246 :: u247 :: u248 :: u249 :: u250 :: u251 :: u252 :: u253 :: u254 :: u255 :: u256 :: u257 :: u258 :: u259 :: u260 :: u261 :: u262 :: u263 :: u264 :: u265 :: u266 :: u267 :: u268 :: u269 :: u270 :: u271 :: u272 :: u273 :: u274 :: u275 :: u276 :: u277 :: u278 :: u279 :: u280 :: u281 :: u282 :: u283 :: u284 :: u285 :: u286 :: u287 :: u288 :: u289 :: u290 :: u291 :: u292 :: u293 :: u294 :: u295 :: u296 :: u297 :: u298 :: u299 :: u300 :: u301 :: u302 :: u303 :: u304 :: u305 :: u306 :: u307 :: u308 :: u309 :: u310 :: u311 :: u312 :: u313 :: u314 :: u315 :: u316 :: u317 :: u318 :: u319 :: u320 :: u321 :: u322 :: u323 :: u324 :: u325 :: u326 :: u327 :: u328 :: u329 :: u330 :: u331 :: u332 :: u333 :: u334 :: u335 :: u336 :: u337 :: u338 :: u339 :: u340 :: u341 :: []), defers := [] }) → J_ a' w') (hK1_ : ∀ (a : Act) (w_ : World), Code.wp Try.prog (sndC (thnC (sndC (fstC (sndC (sndC (sndC (sndC (sndC (sndC (sndC (sndC (sndC (sndC (Try.f8.body.getD .skip))))))))))))))) (Exit.then K'_ (bodyPost Try.prog Try.f8 fun e w' => e = .returned (.bool r) ∧ Below w.heap.size w w')) a w_ → K1_ a w_) :
    Code.wp Try.prog (sndC (fstC (thnC (sndC (fstC (sndC (sndC (sndC (sndC (sndC (sndC (sndC (sndC (sndC (sndC (Try.f8.body.getD .skip)))))))))))))))) (Exit.then K1_ (Exit.then K'_ (bodyPost Try.prog Try.f8 fun e w' => e = .returned (.bool r) ∧ Below w.heap.size w w'))) { tmps := List.toArray (Value.slice A0 l0.length c0 :: Value.slice A1 l1.length c1 :: undef :: undef :: Value.bool false :: Value.int IntKind.i64 t500 :: Value.int IntKind.i64 t501 :: Value.int IntKind.i64 t502 :: Value.int IntKind.i64 t503 :: Value.bool t504 :: Value.bool true :: Value.bool t506 :: Value.bool t507 :: v510 :: Value.bool t509 :: v514 :: Value.bool t513 :: v518 :: Value.bool t517 :: v522 :: Value.bool t521 :: undef :: undef :: undef :: undef :: undef :: undef :: undef :: undef :: undef :: undef :: undef :: undef :: undef :: undef :: undef :: undef :: undef :: undef :: undef :: undef :: undef :: undef :: undef :: undef :: undef :: u46 :: u47 :: u48 :: u49 :: u50 :: u51 :: u52 :: u53 :: u54 :: u55 :: u56 :: u57 :: u58 :: u59 :: u60 :: u61 :: u62 :: u63 :: u64 :: u65 :: u66 :: u67 :: u68 :: u69 :: u70 :: u71 :: u72 :: u73 :: u74 :: u75 :: u76 :: u77 :: u78 :: u79 :: u80 :: u81 :: u82 :: u83 :: u84 :: u85 :: u86 :: u87 :: u88 :: u89 :: u90 :: u91 :: u92 :: u93 :: u94 :: u95 :: u96 :: u97 :: u98 :: u99 :: u100 :: u101 :: u102 :: u103 :: u104 :: u105 :: u106 :: u107 :: u108 :: u109 :: u110 :: u111 :: u112 :: u113 :: u114 :: u115 :: u116 :: u117 :: u118 :: u119 :: u120 :: u121 :: u122 :: u123 :: u124 :: u125 :: u126 :: u127 :: u128 :: u129 :: u130 :: u131 :: u132 :: u133 :: u134 :: u135 :: u136 :: u137 :: u138 :: u139 :: u140 :: u141 :: u142 :: u143 :: u144 :: u145 :: u146 :: u147 :: u148 :: u149 :: u150 :: u151 :: u152 :: u153 :: u154 :: u155 :: u156 :: u157 :: u158 :: u159 :: u160 :: u161 :: u162 :: u163 :: u164 :: u165 :: u166 :: u167 :: u168 :: u169 :: u170 :: u171 :: u172 :: u173 :: u174 :: u175 :: Value.bool x176_57 :: u177 :: u178 :: undef :: undef :: undef :: u182 :: u183 :: u184 :: u185 :: u186 :: u187 :: u188 :: u189 :: u190 :: u191 :: u192 :: u193 :: u194 :: u195 :: u196 :: u197 :: u198 :: u199 :: u200 :: u201 :: u202 :: u203 :: u204 :: u205 :: u206 :: u207 :: u208 :: u209 :: u210 :: u211 :: u212 :: u213 :: u214 :: u215 :: u216 :: u217 :: u218 :: u219 :: u220 :: u221 :: u222 :: u223 :: u224 :: u225 :: u226 :: u227 :: u228 :: u229 :: u230 :: u231 :: u232 :: u233 :: u234 :: u235 :: u236 :: u237 :: u238 :: u239 :: u240 :: u241 :: u242 :: u243 :: u244 :: u245 :: u246 :: u247 :: u248 :: u249 :: u250 :: u251 :: u252 :: u253 :: u254 :: u255 :: u256 :: u257 :: u258 :: u259 :: u260 :: u261 :: u262 :: u263 :: u264 :: u265 :: u266 :: u267 :: u268 :: u269 :: u270 :: u271 :: u272 :: u273 :: u274 :: u275 :: u276 :: u277 :: u278 :: u279 :: u280 :: u281 :: u282 :: u283 :: u284 :: u285 :: u286 :: u287 :: u288 :: u289 :: u290 :: u291 :: u292 :: u293 :: u294 :: u295 :: u296 :: u297 :: u298 :: u299 :: u300 :: u301 :: u302 :: u303 :: u304 :: u305 :: u306 :: u307 :: u308 :: u309 :: u310 :: u311 :: u312 :: u313 :: u314 :: u315 :: u316 :: u317 :: u318 :: u319 :: u320 :: u321 :: u322 :: u323 :: u324 :: u325 :: u326 :: u327 :: u328 :: u329 :: u330 :: u331 :: u332 :: u333 :: u334 :: u335 :: u336 :: u337 :: u338 :: u339 :: u340 :: u341 :: []), defers := [] } wc := by
  conv => arg 2; whnf
  conv at hK1_ => enter [a, w_, 1, 2]; whnf
  cases kq with
  | zero => exact absurd HA.out (by simp [laws_FnPlacesAndLasts.j1])
  | succ kj57 =>
    have H := HA.out
    clear HA
    simp only [laws_FnPlacesAndLasts.j1] at H
    by_cases c68 : x176_57 = true
    · subst c68
      have H1 : (none) = some r := by rw [if_pos rfl] at H; exact H
      exact absurd H1 (by simp)
    · replace c68 := Bool.eq_false_iff.mpr c68
      subst c68
      have H1 : (if t503 ≥ 2 then (laws_FnPlacesAndLasts.l0 kj57 l1 t500 t501 t502 t503 t508 (t508.length : Int) 0) else (laws_FnPlacesAndLasts.j5 kj57 l1)) = some r := by rw [if_neg (show ¬ (false = true) by decide)] at H; exact H
      clear H
      have H := H1
      clear H1
      by_cases c69 : t503 ≥ 2
      · rw [if_pos c69] at H
        have c69b0 : decide (2 ≤ t503) = true := decide_eq_true c69
        clear c69
        have H' := Aside0.mk H
        clear H
        obtain ⟨Ao70, co70, eo70⟩ := Kd.R_slice HO_13.out
        subst eo70
        go_wp2
        go_loopg [181] kj57 (fun kq v181 w' => ∃ (x181_3 : Int), v181 = .int .i64 x181_3 ∧ Aside0 (laws_FnPlacesAndLasts.l0 kq l1 t500 t501 t502 t503 t508 (t508.length : Int) x181_3 = some r) ∧ Aside0 (kq ≤ kj57) ∧ Aside0 (Kd.R (Kd.int .i64) 3 w' w.heap.size (fun _ => True) (.slice Ao70 t508.length co70) t508) ∧ Aside0 (Below w.heap.size w w'))
        case atStart => exact ⟨(0), (by first | rfl | (simp; done) | (simp [*]; done) | (simp [bne]; done)), H', ⟨Nat.le_refl _⟩, ⟨qR HO_13⟩, ⟨qD HB⟩⟩
        case round =>
          clear H'
          try clear c1
          try clear c2
          try clear p2
          try clear c3
          try clear c4
          try clear c5
          try clear c6
          try clear c8
          try clear c19
          try clear c19b0
          try clear c19b1
          try clear c19b2
          try clear c20
          try clear c20b0
          try clear c20b1
          try clear c20b2
          try clear c21
          try clear c21b0
          try clear c21b1
          try clear c21b2
          try clear c23
          try clear c24
          try clear c24b0
          try clear c24b1
          try clear c24b2
          try clear c28
          try clear c29
          try clear c29b0
          try clear c29b1
          try clear c29b2
          try clear c30
          try clear c34
          try clear c35
          try clear c54
          try clear c55
          try clear c56
          try clear c57
          try clear c58
          try clear c59
          try clear c59b0
          try clear c59b1
          try clear c60
          try clear c60b0
          try clear c60b1
          try clear c60b2
          try clear c61
          try clear c61b0
          try clear c61b1
          try clear c61b2
          try clear c62
          try clear c62b0
          try clear c66
          try clear c66b0
          try clear c68
          try clear c69
          try clear c69b0
          try clear p2
          obtain ⟨x181_3, rfl, HA, HK3, HO_179, HB⟩ := hrel
          cases gk with
          | zero => exact absurd HA.out (by simp [laws_FnPlacesAndLasts.l0])
          | succ k3 =>
            have H := HA.out
            clear HA
            simp only [laws_FnPlacesAndLasts.l0] at H
            by_cases c71 : x181_3 < (t508.length : Int)
            · rw [if_pos c71] at H
              have c71b0 : decide (x181_3 < (t508.length : Int)) = true := decide_eq_true c71
              clear c71
              by_cases c72 : 0 ≤ x181_3
              · rw [if_pos c72] at H
                have c72b0 : decide (0 ≤ x181_3) = true := decide_eq_true c72
                clear c72
                by_cases c73 : x181_3 < (t508.length : Int)
                · rw [if_pos c73] at H
                  have c73b0 : decide (x181_3 < (t508.length : Int)) = true := decide_eq_true c73
                  clear c73
                  have HC74 := Aside0.mk H
                  clear H
                  have p527 : 0 ≤ (x181_3 : Int) := of_decide_eq_true (by first | (with_reducible assumption) | assumption)
                  have q527 : x181_3 < (t508.length : Int) := of_decide_eq_true (by first | (with_reducible assumption) | assumption)
                  obtain ⟨ad527, e527, hx527_0⟩ := Kd.at_int (Kd.R_reads' HO_179.out).2.2 x181_3 p527 q527
                  cases e527
                  replace p527 := eq_true p527
                  replace q527 := eq_true q527
                  go_upto_if 188 with (fail)
                  go_cut [23] (fun v23 wc => ∃ (kq : Nat) (x23_73 : Int), v23 = .int .i64 x23_73 ∧ Aside0 (laws_FnPlacesAndLasts.j3 kq l1 t500 t501 t502 t503 x23_73 t508 (t508.length : Int) x181_3 = some r) ∧ Aside0 (kq ≤ k3) ∧ Aside0 (Kd.R (Kd.int .i64) 3 wc w.heap.size (fun _ => True) (.slice (some ad527) t508.length co70) t508) ∧ Aside0 (Below w.heap.size w wc))
                  case first =>
                    have H := HC74.out
                    clear HC74
                    by_cases c75 : t501 = (rd t508 x181_3)
                    · rw [if_pos c75] at H
                      have c75b0 : (t501 == (rd t508 x181_3)) = true := beq_iff_eq.mpr c75
                      have c75b1 : (t501 != (rd t508 x181_3)) = false := bne_eq_false_iff_eq.mpr c75
                      clear c75
                      (first | rw [c75b0] | (simp only [i64_w, i32_w]; rw [c75b0]) | skip)
                      have H' := Aside0.mk H
                      clear H
                      go_wp2
                      go_meet
                      case rel => exact ⟨_, (wrap64 ((rd t508 x181_3) + 1)), (by first | rfl | (simp; done) | (simp [*]; done) | (simp [bne]; done)), H', ⟨by have := HJ11.out; have := HJ57.out; have := HK3.out; first | omega | exact Nat.le_refl _⟩, ⟨qR HO_179⟩, ⟨qD HB⟩⟩
                    · rw [if_neg c75] at H
                      have c75b0 : (t501 == (rd t508 x181_3)) = false := beq_eq_false_iff_ne.mpr c75
                      have c75b1 : (t501 != (rd t508 x181_3)) = true := bne_iff_ne.mpr c75
                      (first | rw [c75b0] | (simp only [i64_w, i32_w]; rw [c75b0]) | skip)
                      by_cases c76 : t501 = (wrap64 ((rd t508 x181_3) + 1))
                      · rw [if_pos c76] at H
                        have c76b0 : (t501 == (wrap64 ((rd t508 x181_3) + 1))) = true := beq_iff_eq.mpr c76
                        have c76b1 : (t501 != (wrap64 ((rd t508 x181_3) + 1))) = false := bne_eq_false_iff_eq.mpr c76
                        clear c76
                        have H' := Aside0.mk H
                        clear H
                        go_wp2
                        go_meet
                        case rel => exact ⟨_, (rd t508 x181_3), (by first | rfl | (simp; done) | (simp [*]; done) | (simp [bne]; done)), H', ⟨by have := HJ11.out; have := HJ57.out; have := HK3.out; first | omega | exact Nat.le_refl _⟩, ⟨qR HO_179⟩, ⟨qD HB⟩⟩
                      · rw [if_neg c76] at H
                        have c76b0 : (t501 == (wrap64 ((rd t508 x181_3) + 1))) = false := beq_eq_false_iff_ne.mpr c76
                        have c76b1 : (t501 != (wrap64 ((rd t508 x181_3) + 1))) = true := bne_iff_ne.mpr c76
                        have H' := Aside0.mk H
                        clear H
                        go_wp2
                        go_meet
                        case rel => exact ⟨_, (t501), (by first | rfl | (simp; done) | (simp [*]; done) | (simp [bne]; done)), H', ⟨by have := HJ11.out; have := HJ57.out; have := HK3.out; first | omega | exact Nat.le_refl _⟩, ⟨qR HO_179⟩, ⟨qD HB⟩⟩
                  case rest =>
                    clear HC74
                    try clear c1
                    try clear c2
                    try clear p2
                    try clear c3
                    try clear c4
                    try clear c5
                    try clear p5
                    try clear q5
                    try clear hx5
                    try clear c6
                    try clear p6
                    try clear c7
                    try clear c8
                    try clear c19
                    try clear c19b0
                    try clear c19b1
                    try clear c19b2
                    try clear c20
                    try clear c20b0
                    try clear c20b1
                    try clear c20b2
                    try clear c21
                    try clear c21b0
                    try clear c21b1
                    try clear c21b2
                    try clear c23
                    try clear c24
                    try clear c24b0
                    try clear c24b1
                    try clear c24b2
                    try clear c28
                    try clear c29
                    try clear c29b0
                    try clear c29b1
                    try clear c29b2
                    try clear c30
                    try clear c34
                    try clear c35
                    try clear p52
                    try clear q52
                    try clear hx52
                    try clear c54
                    try clear c55
                    try clear c56
                    try clear c57
                    try clear c58
                    try clear c59
                    try clear c59b0
                    try clear c59b1
                    try clear c60
                    try clear c60b0
                    try clear c60b1
                    try clear c60b2
                    try clear c61
                    try clear c61b0
                    try clear c61b1
                    try clear c61b2
                    try clear c62
                    try clear c62b0
                    try clear p64
                    try clear c66
                    try clear c66b0
                    try clear c68
                    try clear c69
                    try clear c69b0
                    try clear c71
                    try clear c71b0
                    try clear c72
                    try clear c72b0
                    try clear c73
                    try clear c73b0
                    try clear c75
                    try clear c75b0
                    try clear c75b1
                    try clear c76
                    try clear c76b0
                    try clear c76b1
                    try clear hx527_0
                    try clear p2
                    try clear p527
                    try clear q527
                    obtain ⟨kq, x23_73, rfl, HA, HJ73, HO_179, HB⟩ := hcut
                    cases kq with
                    | zero => exact absurd HA.out (by simp [laws_FnPlacesAndLasts.j3])
                    | succ kj73 =>
                      have H := HA.out
                      clear HA
                      simp only [laws_FnPlacesAndLasts.j3] at H
                      have H' := Aside0.mk H
                      clear H
                      go_wp2
                      go_loopg [24] kj73 (fun kq v24 w' => ∃ (x24_5 : Int), v24 = .int .i64 x24_5 ∧ Aside0 (laws_FnPlacesAndLasts.l1 kq l1 t500 t501 t502 t503 x23_73 x24_5 t508 (t508.length : Int) x181_3 = some r) ∧ Aside0 (kq ≤ kj73) ∧ Aside0 (Kd.R (Kd.int .i64) 3 w' w.heap.size (fun _ => True) (.slice (some ad527) t508.length co70) t508) ∧ Aside0 (Below w.heap.size w w'))
                      case atStart => exact ⟨(0), (by first | rfl | (simp; done) | (simp [*]; done) | (simp [bne]; done)), H', ⟨Nat.le_refl _⟩, ⟨qR HO_179⟩, ⟨qD HB⟩⟩
                      case round =>
                        clear H'
                        try clear c1
                        try clear c2
                        try clear p2
                        try clear c3
                        try clear c4
                        try clear c5
                        try clear p5
                        try clear q5
                        try clear hx5
                        try clear c6
                        try clear p6
                        try clear c7
                        try clear c8
                        try clear c19
                        try clear c19b0
                        try clear c19b1
                        try clear c19b2
                        try clear c20
                        try clear c20b0
                        try clear c20b1
                        try clear c20b2
                        try clear c21
                        try clear c21b0
                        try clear c21b1
                        try clear c21b2
                        try clear c23
                        try clear c24
                        try clear c24b0
                        try clear c24b1
                        try clear c24b2
                        try clear c28
                        try clear c29
                        try clear c29b0
                        try clear c29b1
                        try clear c29b2
                        try clear c30
                        try clear c34
                        try clear c35
                        try clear p52
                        try clear q52
                        try clear hx52
                        try clear c54
                        try clear c55
                        try clear c56
                        try clear c57
                        try clear c58
                        try clear c59
                        try clear c59b0
                        try clear c59b1
                        try clear c60
                        try clear c60b0
                        try clear c60b1
                        try clear c60b2
                        try clear c61
                        try clear c61b0
                        try clear c61b1
                        try clear c61b2
                        try clear c62
                        try clear c62b0
                        try clear p64
                        try clear c66
                        try clear c66b0
                        try clear c68
                        try clear c69
                        try clear c69b0
                        try clear c71
                        try clear c71b0
                        try clear c72
                        try clear c72b0
                        try clear c73
                        try clear c73b0
                        try clear c75
                        try clear c75b0
                        try clear c75b1
                        try clear c76
                        try clear c76b0
                        try clear c76b1
                        try clear hx527_0
                        try clear p2
                        try clear p5
                        try clear p52
                        try clear p527
                        try clear p6
                        try clear p64
                        try clear q5
                        try clear q52
                        try clear q527
                        obtain ⟨x24_5, rfl, HA, HK5, HO_179, HB⟩ := hrel
                        cases gk with
                        | zero => exact absurd HA.out (by simp [laws_FnPlacesAndLasts.l1])
                        | succ k5 =>
                          have H := HA.out
                          clear HA
                          simp only [laws_FnPlacesAndLasts.l1] at H
                          by_cases c77 : x24_5 < (wrap64 (t500 - 1))
                          · rw [if_pos c77] at H
                            have c77b0 : decide (x24_5 < (wrap64 (t500 - 1))) = true := decide_eq_true c77
                            clear c77
                            by_cases c78 : x23_73 = x24_5
                            · rw [if_pos c78] at H
                              have c78b0 : (x23_73 == x24_5) = true := beq_iff_eq.mpr c78
                              have c78b1 : (x23_73 != x24_5) = false := bne_eq_false_iff_eq.mpr c78
                              clear c78
                              replace H := Option.bind_eq_some_iff.mp H
                              obtain ⟨⟨t528, t529⟩, A790, H⟩ := H
                              replace H : (if t529 = true then (if t528 = true then (laws_FnPlacesAndLasts.l1 k5 l1 t500 t501 t502 t503 x23_73 (wrap64 (x24_5 + 1)) t508 (t508.length : Int) x181_3) else (none)) else (none)) = some r := H
                              have A79 := Aside0.mk A790
                              clear A790
                              by_cases c80 : t529 = true
                              · subst c80
                                have H1 : (if t528 = true then (laws_FnPlacesAndLasts.l1 k5 l1 t500 t501 t502 t503 x23_73 (wrap64 (x24_5 + 1)) t508 (t508.length : Int) x181_3) else (none)) = some r := by rw [if_pos rfl] at H; exact H
                                clear H
                                have H := H1
                                clear H1
                                by_cases c81 : t528 = true
                                · subst c81
                                  have H1 : (laws_FnPlacesAndLasts.l1 k5 l1 t500 t501 t502 t503 x23_73 (wrap64 (x24_5 + 1)) t508 (t508.length : Int) x181_3) = some r := by rw [if_pos rfl] at H; exact H
                                  clear H
                                  have H := H1
                                  clear H1
                                  have H' := Aside0.mk H
                                  clear H
                                  go_wp2_with (first | ((with_reducible refine gate_callee (f := 55) rfl ?_); refine gs (some 219) Try.func55 #[.int .i64 t500, .int .i64 (wrap64 (x24_5 + 1)), .int .i64 t502, .int .i64 (wrap64 (t503 - 2))] ?_; (with_reducible refine (impl_PlaceWinner.calls k5 t500 (wrap64 (x24_5 + 1)) t502 (wrap64 (t503 - 2)) true true _ A79.out).mono ?_); rintro e w' ⟨rfl, ⟨nd, rfl⟩⟩; refine ⟨_, rfl, ?_⟩))
                                  go_roundg k5
                                  case measure => have := HJ11.out; have := HJ57.out; have := HK3.out; have := HJ73.out; have := HK5.out; omega
                                  case rel => exact ⟨(wrap64 (x24_5 + 1)), (by first | rfl | (simp; done) | (simp [*]; done) | (simp [bne]; done)), H', ⟨by have := HJ11.out; have := HJ57.out; have := HK3.out; have := HJ73.out; have := HK5.out; omega⟩, ⟨qR HO_179⟩, ⟨qD HB⟩⟩
                                · replace c81 := Bool.eq_false_iff.mpr c81
                                  subst c81
                                  have H1 : (none) = some r := by rw [if_neg (show ¬ (false = true) by decide)] at H; exact H
                                  exact absurd H1 (by simp)
                              · replace c80 := Bool.eq_false_iff.mpr c80
                                subst c80
                                have H1 : (none) = some r := by rw [if_neg (show ¬ (false = true) by decide)] at H; exact H
                                exact absurd H1 (by simp)
                            · rw [if_neg c78] at H
                              have c78b0 : (x23_73 == x24_5) = false := beq_eq_false_iff_ne.mpr c78
                              have c78b1 : (x23_73 != x24_5) = true := bne_iff_ne.mpr c78
                              by_cases c82 : x23_73 = (wrap64 (x24_5 + 1))
                              · rw [if_pos c82] at H
                                have c82b0 : (x23_73 == (wrap64 (x24_5 + 1))) = true := beq_iff_eq.mpr c82
                                have c82b1 : (x23_73 != (wrap64 (x24_5 + 1))) = false := bne_eq_false_iff_eq.mpr c82
                                clear c82
                                replace H := Option.bind_eq_some_iff.mp H
                                obtain ⟨⟨t530, t531⟩, A830, H⟩ := H
                                replace H : (if t531 = true then (if t530 = true then (laws_FnPlacesAndLasts.l1 k5 l1 t500 t501 t502 t503 x23_73 (wrap64 (x24_5 + 1)) t508 (t508.length : Int) x181_3) else (none)) else (none)) = some r := H
                                have A83 := Aside0.mk A830
                                clear A830
                                by_cases c84 : t531 = true
                                · subst c84
                                  have H1 : (if t530 = true then (laws_FnPlacesAndLasts.l1 k5 l1 t500 t501 t502 t503 x23_73 (wrap64 (x24_5 + 1)) t508 (t508.length : Int) x181_3) else (none)) = some r := by rw [if_pos rfl] at H; exact H
                                  clear H
                                  have H := H1
                                  clear H1
                                  by_cases c85 : t530 = true
                                  · subst c85
                                    have H1 : (laws_FnPlacesAndLasts.l1 k5 l1 t500 t501 t502 t503 x23_73 (wrap64 (x24_5 + 1)) t508 (t508.length : Int) x181_3) = some r := by rw [if_pos rfl] at H; exact H
                                    clear H
                                    have H := H1
                                    clear H1
                                    have H' := Aside0.mk H
                                    clear H
                                    go_wp2_with (first | ((with_reducible refine gate_callee (f := 55) rfl ?_); refine gs (some 219) Try.func55 #[.int .i64 t500, .int .i64 x24_5, .int .i64 t502, .int .i64 (wrap64 (t503 - 2))] ?_; (with_reducible refine (impl_PlaceWinner.calls k5 t500 x24_5 t502 (wrap64 (t503 - 2)) true true _ A83.out).mono ?_); rintro e w' ⟨rfl, ⟨nd, rfl⟩⟩; refine ⟨_, rfl, ?_⟩))
                                    go_roundg k5
                                    case measure => have := HJ11.out; have := HJ57.out; have := HK3.out; have := HJ73.out; have := HK5.out; omega
                                    case rel => exact ⟨(wrap64 (x24_5 + 1)), (by first | rfl | (simp; done) | (simp [*]; done) | (simp [bne]; done)), H', ⟨by have := HJ11.out; have := HJ57.out; have := HK3.out; have := HJ73.out; have := HK5.out; omega⟩, ⟨qR HO_179⟩, ⟨qD HB⟩⟩
                                  · replace c85 := Bool.eq_false_iff.mpr c85
                                    subst c85
                                    have H1 : (none) = some r := by rw [if_neg (show ¬ (false = true) by decide)] at H; exact H
                                    exact absurd H1 (by simp)
                                · replace c84 := Bool.eq_false_iff.mpr c84
                                  subst c84
                                  have H1 : (none) = some r := by rw [if_neg (show ¬ (false = true) by decide)] at H; exact H
                                  exact absurd H1 (by simp)
                              · rw [if_neg c82] at H
                                have c82b0 : (x23_73 == (wrap64 (x24_5 + 1))) = false := beq_eq_false_iff_ne.mpr c82
                                have c82b1 : (x23_73 != (wrap64 (x24_5 + 1))) = true := bne_iff_ne.mpr c82
                                replace H := Option.bind_eq_some_iff.mp H
                                obtain ⟨⟨t532, t533⟩, A860, H⟩ := H
                                replace H : (if t533 = true then (if t532 = true then (laws_FnPlacesAndLasts.l1 k5 l1 t500 t501 t502 t503 x23_73 (wrap64 (x24_5 + 1)) t508 (t508.length : Int) x181_3) else (none)) else (none)) = some r := H
                                have A86 := Aside0.mk A860
                                clear A860
                                by_cases c87 : t533 = true
                                · subst c87
                                  have H1 : (if t532 = true then (laws_FnPlacesAndLasts.l1 k5 l1 t500 t501 t502 t503 x23_73 (wrap64 (x24_5 + 1)) t508 (t508.length : Int) x181_3) else (none)) = some r := by rw [if_pos rfl] at H; exact H
                                  clear H
                                  have H := H1
                                  clear H1
                                  by_cases c88 : t532 = true
                                  · subst c88
                                    have H1 : (laws_FnPlacesAndLasts.l1 k5 l1 t500 t501 t502 t503 x23_73 (wrap64 (x24_5 + 1)) t508 (t508.length : Int) x181_3) = some r := by rw [if_pos rfl] at H; exact H
                                    clear H
                                    have H := H1
                                    clear H1
                                    have H' := Aside0.mk H
                                    clear H
                                    go_wp2_with (first | ((with_reducible refine gate_callee (f := 55) rfl ?_); refine gs (some 219) Try.func55 #[.int .i64 t500, .int .i64 x23_73, .int .i64 t502, .int .i64 (wrap64 (t503 - 2))] ?_; (with_reducible refine (impl_PlaceWinner.calls k5 t500 x23_73 t502 (wrap64 (t503 - 2)) true true _ A86.out).mono ?_); rintro e w' ⟨rfl, ⟨nd, rfl⟩⟩; refine ⟨_, rfl, ?_⟩))
                                    go_roundg k5
                                    case measure => have := HJ11.out; have := HJ57.out; have := HK3.out; have := HJ73.out; have := HK5.out; omega
                                    case rel => exact ⟨(wrap64 (x24_5 + 1)), (by first | rfl | (simp; done) | (simp [*]; done) | (simp [bne]; done)), H', ⟨by have := HJ11.out; have := HJ57.out; have := HK3.out; have := HJ73.out; have := HK5.out; omega⟩, ⟨qR HO_179⟩, ⟨qD HB⟩⟩
                                  · replace c88 := Bool.eq_false_iff.mpr c88
                                    subst c88
                                    have H1 : (none) = some r := by rw [if_neg (show ¬ (false = true) by decide)] at H; exact H
                                    exact absurd H1 (by simp)
                                · replace c87 := Bool.eq_false_iff.mpr c87
                                  subst c87
                                  have H1 : (none) = some r := by rw [if_neg (show ¬ (false = true) by decide)] at H; exact H
                                  exact absurd H1 (by simp)
                          · rw [if_neg c77] at H
                            have c77b0 : decide (x24_5 < (wrap64 (t500 - 1))) = false := decide_eq_false c77
                            clear c77
                            have H' := Aside0.mk H
                            clear H
                            go_wp2
                            go_roundg k5
                            case measure => have := HJ11.out; have := HJ57.out; have := HK3.out; have := HJ73.out; have := HK5.out; omega
                            case rel => exact ⟨(wrap64 (x181_3 + 1)), (by first | rfl | (simp; done) | (simp [*]; done) | (simp [bne]; done)), H', ⟨by have := HJ11.out; have := HJ57.out; have := HK3.out; have := HJ73.out; have := HK5.out; omega⟩, ⟨qR HO_179⟩, ⟨qD HB⟩⟩
                · rw [if_neg c73] at H
                  exact absurd H (by simp)
              · rw [if_neg c72] at H
                exact absurd H (by simp)
            · rw [if_neg c71] at H
              have c71b0 : decide (x181_3 < (t508.length : Int)) = false := decide_eq_false c71
              clear c71
              have H' := Aside0.mk H
              clear H
              go_wp2
              go_meet
              case rel => exact ⟨_, H', ⟨by have := HJ11.out; have := HJ57.out; have := HK3.out; first | omega | exact Nat.le_refl _⟩, ⟨qD HB⟩⟩
      · rw [if_neg c69] at H
        have c69b0 : decide (2 ≤ t503) = false := decide_eq_false c69
        clear c69
        have H' := Aside0.mk H
        clear H
        go_wp2
        go_meet
        case rel => exact ⟨_, H', ⟨by have := HJ11.out; have := HJ57.out; first | omega | exact Nat.le_refl _⟩, ⟨qD HB⟩⟩

end Go.Proofs.Ytlmlamkbedfmhaa.P
end
