-- Put together by wip/merge.py (a program of this session's) out of this claim's texts; Lean checks it.
import Derived.Test.YtlmlamkbedfmhaaG32
import Derived.Test.YtlmlamkbedfmhaaG22
import Derived.Test.YtlmlamkbedfmhaaG23
import Derived.Test.YtlmlamkbedfmhaaG25
import Derived.Test.YtlmlamkbedfmhaaG26
import Derived.Test.YtlmlamkbedfmhaaG27
section
namespace Go.Proofs.Ytlmlamkbedfmhaa.P
open Go.RowKit Go.Proofs.YtlmlamkbedfmhaaW.PrintWords Go.Proofs.YtlmlamkbedfmhaaW.PrintLast Go.Proofs.YtlmlamkbedfmhaaW.PrintMore
attribute [local go_sem] max2_int min2_int max_two min_two max_three min_three max_four min_four   -- for this text's walks alone
set_option linter.unusedVariables false
set_option linter.unusedSimpArgs false

def sndC (c : Go.Code) : Go.Code := match c with | .seq _ b => b | c => c
def fstC (c : Go.Code) : Go.Code := match c with | .seq a _ => a | c => c
def thnC (c : Go.Code) : Go.Code := match c with | .cond _ a _ => a | c => c
def elsC (c : Go.Code) : Go.Code := match c with | .cond _ _ a => a | c => c
def insC (c : Go.Code) : Go.Code := match c with | .block _ a => a | .loop a => a | c => c
set_option maxHeartbeats 8000000 in
set_option maxRecDepth 100000 in
theorem laws_FnPlacesAndLasts.tail16 {k : Nat} {A0 : Option Addr} {c0 : Nat} {l0 : List Int} {A1 : Option Addr} {c1 : Nat} {l1 : List Int} {r : Bool} {w : World} {t500 t501 t502 t503 : Int} {t504 t505 t506 t507 t509 t513 t517 t521 : Bool} {v510 v514 v518 v522 : Value} {kj11 : Nat} {u4 u22 u23 u24 u25 u26 u27 u179 u180 u181 : Value} {kj55 : Nat} {t534 : Int} {t535 t539 : List Int} {t542 t546 t547 t548 t549 t550 : Bool} {gb538 : Nat} {Ao98 : Option Addr} {co98 : Nat} {v540 v544 : Value} {wc : World} {u46 u47 u48 u49 u50 u51 u52 u53 u54 u55 u56 u57 u58 u59 u60 u61 u62 u63 u64 u65 u66 u67 u68 u69 u70 u71 u72 u73 u74 u75 u76 u77 u78 u79 u80 u81 u82 u83 u84 u85 u86 u87 u88 u89 u90 u91 u92 u93 u94 u95 u96 u97 u98 u99 u100 u101 u102 u103 u104 u105 u106 u107 u108 u109 u110 u111 u112 u113 u114 u115 u116 u117 u118 u119 u120 u121 u122 u123 u124 u125 u126 u127 u128 u129 u130 u131 u132 u133 u134 u135 u136 u137 u138 u139 u140 u141 u142 u143 u144 u145 u146 u147 u148 u149 u150 u151 u152 u153 u154 u155 u156 u157 u158 u159 u160 u161 u162 u163 u164 u165 u166 u167 u168 u169 u170 u171 u172 u173 u174 u175 u176 u177 u178 u182 u183 u184 u185 u186 u187 u188 u189 u190 u191 u192 u193 u194 u195 u196 u197 u198 u199 u200 u201 u202 u203 u204 u205 u206 u207 u208 u209 u210 u211 u212 u213 u214 u215 u216 u217 u218 u219 u220 u221 u222 u223 u224 u225 u226 u227 u228 u229 u230 u231 u232 u233 u234 u235 u236 u237 u238 u239 u240 u241 u242 u243 u244 u245 u246 u247 u248 u249 u250 u251 u252 u253 u254 u255 u256 u257 u258 u259 u260 u261 u262 u263 u264 u265 u266 u267 u268 u269 u270 u271 u272 u273 u275 u276 u277 u278 u279 u280 u281 u282 u283 u284 u285 u286 u287 u288 u289 u290 u291 u292 u293 u294 u295 u296 u297 u298 u299 u300 u301 u302 u303 u304 u305 u306 u307 u308 u309 u310 u311 u312 u313 u314 u315 u316 u317 u318 u319 u320 u321 u322 u323 u324 u325 u326 u327 u328 u329 u330 u331 u332 u333 u334 u335 u336 u337 u338 u339 u340 u341 : Value} {kq : Nat} {x274_93 : Bool} (nd : Nat) (HJ11 : Aside0 (kj11 + 1 ≤ k)) (HJ55 : Aside0 (kj55 + 1 ≤ kj11)) (HA : Aside0 (j6 kq t539 t542 t547 x274_93 t534 t535 = some r)) (HJ93 : Aside0 (kq ≤ kj55)) (HO_29 :  Aside0 ((Kd.int IntKind.i64).R 3 wc w.heap.size (fun k_ => some k_ ≠ (Value.slice Ao98 t535.length co98).ownBlock) v540 t539)) (HO_539001 :  Aside0 ((Kd.int IntKind.i64).R 3 wc w.heap.size (fun k_ => some k_ ≠ v540.ownBlock) (Value.slice Ao98 t535.length co98) t535)) (BK538 : Aside0 (wc.heap[gb538]? = some (Obj.cells #[Value.int IntKind.i64 t534, Value.slice Ao98 t535.length co98] 26))) (HB : Aside0 (Below w.heap.size w wc)) {K2_ : Act → World → Prop} (hK2_ : ∀ (a : Act) (w_ : World), Code.wp Try.prog (sndC (sndC (sndC (sndC (sndC (sndC (sndC (sndC (sndC (sndC (sndC (sndC (sndC (sndC (sndC (sndC (sndC ((Try.f8.body.getD .skip))))))))))))))))))) (bodyPost Try.prog Try.f8 fun e w' => e = .returned (.bool r) ∧ Below w.heap.size w w') a w_ → K2_ a w_) :
    Code.wp Try.prog (sndC (fstC (sndC (sndC (sndC (sndC (sndC (sndC (sndC (sndC (sndC (sndC (sndC (sndC (sndC (sndC (sndC (sndC ((Try.f8.body.getD .skip)))))))))))))))))))) (Exit.then K2_ (bodyPost Try.prog Try.f8 fun e w' => e = .returned (.bool r) ∧ Below w.heap.size w w')) { tmps := List.toArray (Value.slice A0 l0.length c0 :: Value.slice A1 l1.length c1 :: undef :: undef :: u4 :: Value.int IntKind.i64 t500 :: Value.int IntKind.i64 t501 :: Value.int IntKind.i64 t502 :: Value.int IntKind.i64 t503 :: Value.bool t504 :: Value.bool t505 :: Value.bool t506 :: Value.bool t507 :: v510 :: Value.bool t509 :: v514 :: Value.bool t513 :: v518 :: Value.bool t517 :: v522 :: Value.bool t521 :: undef :: u22 :: u23 :: u24 :: u25 :: u26 :: u27 :: Value.pointer (some { block := gb538, off := 0 }) :: v540 :: Value.bool t542 :: v544 :: Value.bool t546 :: Value.bool t547 :: Value.bool t548 :: Value.bool t549 :: Value.bool t550 :: undef :: undef :: undef :: undef :: undef :: undef :: undef :: undef :: undef :: u46 :: u47 :: u48 :: u49 :: u50 :: u51 :: u52 :: u53 :: u54 :: u55 :: u56 :: u57 :: u58 :: u59 :: u60 :: u61 :: u62 :: u63 :: u64 :: u65 :: u66 :: u67 :: u68 :: u69 :: u70 :: u71 :: u72 :: u73 :: u74 :: u75 :: u76 :: u77 :: u78 :: u79 :: u80 :: u81 :: u82 :: u83 :: u84 :: u85 :: u86 :: u87 :: u88 :: u89 :: u90 :: u91 :: u92 :: u93 :: u94 :: u95 :: u96 :: u97 :: u98 :: u99 :: u100 :: u101 :: u102 :: u103 :: u104 :: u105 :: u106 :: u107 :: u108 :: u109 :: u110 :: u111 :: u112 :: u113 :: u114 :: u115 :: u116 :: u117 :: u118 :: u119 :: u120 :: u121 :: u122 :: u123 :: u124 :: u125 :: u126 :: u127 :: u128 :: u129 :: u130 :: u131 :: u132 :: u133 :: u134 :: u135 :: u136 :: u137 :: u138 :: u139 :: u140 :: u141 :: u142 :: u143 :: u144 :: u145 :: u146 :: u147 :: u148 :: u149 :: u150 :: u151 :: u152 :: u153 :: u154 :: u155 :: u156 :: u157 :: u158 :: u159 :: u160 :: u161 :: u162 :: u163 :: u164 :: u165 :: u166 :: u167 :: u168 :: u169 :: u170 :: u171 :: u172 :: u173 :: u174 :: u175 :: u176 :: u177 :: u178 :: u179 :: u180 :: u181 :: u182 :: u183 :: u184 :: u185 :: u186 :: u187 :: u188 :: u189 :: u190 :: u191 :: u192 :: u193 :: u194 :: u195 :: u196 :: u197 :: u198 :: u199 :: u200 :: u201 :: u202 :: u203 :: u204 :: u205 :: u206 :: u207 :: u208 :: u209 :: u210 :: u211 :: u212 :: u213 :: u214 :: u215 :: u216 :: u217 :: u218 :: u219 :: u220 :: u221 :: u222 :: u223 :: u224 :: u225 :: u226 :: u227 :: u228 :: u229 :: u230 :: u231 :: u232 :: u233 :: u234 :: u235 :: u236 :: u237 :: u238 :: u239 :: u240 :: u241 :: u242 :: u243 :: u244 :: u245 :: u246 :: u247 :: u248 :: u249 :: u250 :: u251 :: u252 :: u253 :: u254 :: u255 :: u256 :: u257 :: u258 :: u259 :: u260 :: u261 :: u262 :: u263 :: u264 :: u265 :: u266 :: u267 :: u268 :: u269 :: u270 :: u271 :: u272 :: u273 :: Value.bool x274_93 :: u275 :: u276 :: u277 :: u278 :: u279 :: u280 :: u281 :: u282 :: u283 :: u284 :: u285 :: u286 :: u287 :: u288 :: u289 :: u290 :: u291 :: u292 :: u293 :: u294 :: u295 :: u296 :: u297 :: u298 :: u299 :: u300 :: u301 :: u302 :: u303 :: u304 :: u305 :: u306 :: u307 :: u308 :: u309 :: u310 :: u311 :: u312 :: u313 :: u314 :: u315 :: u316 :: u317 :: u318 :: u319 :: u320 :: u321 :: u322 :: u323 :: u324 :: u325 :: u326 :: u327 :: u328 :: u329 :: u330 :: u331 :: u332 :: u333 :: u334 :: u335 :: u336 :: u337 :: u338 :: u339 :: u340 :: u341 :: []), defers := [] } wc := by
  conv => arg 2; whnf
  conv at hK2_ => enter [a, w_, 1, 2]; whnf
  cases kq with
  | zero => exact absurd HA.out (by simp [laws_FnPlacesAndLasts.j6])
  | succ kj93 =>
    have H := HA.out
    clear HA
    simp only [laws_FnPlacesAndLasts.j6] at H
    by_cases c119 : x274_93 = true
    · subst c119
      have H1 : (none) = some r := by rw [if_pos rfl] at H; exact H
      exact absurd H1 (by simp)
    · replace c119 := Bool.eq_false_iff.mpr c119
      subst c119
      have H1 : (if t542 = true then ((impl_IsLeast.f kj93 t534 t535).bind fun bt552 => (if bt552.2 = true then (if bt552.1 = true then (if (t539.length : Int) = 0 then (laws_FnPlacesAndLasts.j7 kj93 t539 t547 t547 t534 t535) else (laws_FnPlacesAndLasts.j7 kj93 t539 t547 false t534 t535)) else (none)) else (none))) else (some true)) = some r := by rw [if_neg (show ¬ (false = true) by decide)] at H; exact H
      clear H
      have H := H1
      clear H1
      by_cases c120 : t542 = true
      · subst c120
        have H1 : ((impl_IsLeast.f kj93 t534 t535).bind fun bt552 => (if bt552.2 = true then (if bt552.1 = true then (if (t539.length : Int) = 0 then (laws_FnPlacesAndLasts.j7 kj93 t539 t547 t547 t534 t535) else (laws_FnPlacesAndLasts.j7 kj93 t539 t547 false t534 t535)) else (none)) else (none))) = some r := by rw [if_pos rfl] at H; exact H
        clear H
        have H := H1
        clear H1
        replace H := Option.bind_eq_some_iff.mp H
        obtain ⟨⟨t552, t553⟩, A1210, H⟩ := H
        replace H : (if t553 = true then (if t552 = true then (if (t539.length : Int) = 0 then (laws_FnPlacesAndLasts.j7 kj93 t539 t547 t547 t534 t535) else (laws_FnPlacesAndLasts.j7 kj93 t539 t547 false t534 t535)) else (none)) else (none)) = some r := H
        have A121 := Aside0.mk A1210
        clear A1210
        have HC122 := Aside0.mk H
        clear H
        have hcz123_0 := cl BK538 0
        have hcz123_1 := cl BK538 1
        have hfz123_0 := blk_frozen BK538.out 0
        have hfz123_1 := blk_frozen BK538.out 1
        go_upto_region 45 with (first | ((with_reducible refine gate_callee (f := 68) rfl ?_); refine gs (some 278) Try.func68 #[.agg #[.int .i64 t534, .slice Ao98 t535.length co98]] ?_; (with_reducible refine (impl_IsLeast.calls kj93 t534 _ _ t535 t552 t553 _ ?side1 ?side2 A121.out).mono ?_); (case side1 => exact qC (Kd.R_reads' HO_539001.out).2.2); (case side2 => exact (Kd.R_reads' HO_539001.out).2.1); rintro e w124 ⟨rfl, hb⟩; refine ⟨_, rfl, ?_⟩; replace HO_29 := uR HO_29 hb; replace HO_539001 := uR HO_539001 hb; replace BK538 := uB BK538 hb; replace HB := uD HB hb; (try clear hb); (try clear hb2); (try clear hk); (try clear hi)))
        (try simp only [Act.put, List.setIfInBounds_toArray, List.set_cons_zero, List.set_cons_succ])
        go_cut [294] (fun v294 wc => ∃ (kq : Nat) (x294_121 : Bool), v294 = .bool x294_121 ∧ Aside0 (laws_FnPlacesAndLasts.j7 kq t539 t547 x294_121 t534 t535 = some r) ∧ Aside0 (kq ≤ kj93) ∧ Aside0 (Kd.R (Kd.int .i64) 3 wc w.heap.size (fun k_ => some k_ ≠ ((.slice Ao98 t535.length co98) : Value).ownBlock) v540 t539) ∧ Aside0 (Kd.R (Kd.int .i64) 3 wc w.heap.size (fun k_ => some k_ ≠ (v540 : Value).ownBlock) (.slice Ao98 t535.length co98) t535) ∧ Aside0 (wc.heap[gb538]? = some (.cells #[.int .i64 t534, (.slice Ao98 t535.length co98)] 26 (0, 0))) ∧ Aside0 (Below w.heap.size w wc))
        case first =>
          have H := HC122.out
          clear HC122
          by_cases c125 : t553 = true
          · subst c125
            have H1 : (if t552 = true then (if (t539.length : Int) = 0 then (laws_FnPlacesAndLasts.j7 kj93 t539 t547 t547 t534 t535) else (laws_FnPlacesAndLasts.j7 kj93 t539 t547 false t534 t535)) else (none)) = some r := by rw [if_pos rfl] at H; exact H
            clear H
            have H := H1
            clear H1
            by_cases c126 : t552 = true
            · subst c126
              have H1 : (if (t539.length : Int) = 0 then (laws_FnPlacesAndLasts.j7 kj93 t539 t547 t547 t534 t535) else (laws_FnPlacesAndLasts.j7 kj93 t539 t547 false t534 t535)) = some r := by rw [if_pos rfl] at H; exact H
              clear H
              have H := H1
              clear H1
              by_cases c127 : (t539.length : Int) = 0
              · rw [if_pos c127] at H
                have c127b0 : ((t539.length : Int) == 0) = true := beq_iff_eq.mpr c127
                have c127b1 : ((t539.length : Int) != 0) = false := bne_eq_false_iff_eq.mpr c127
                clear c127
                (first | rw [c127b0] | (simp only [i64_w, i32_w]; rw [c127b0]) | skip)
                have H' := Aside0.mk H
                clear H
                obtain ⟨Ao128, co128, eo128⟩ := Kd.R_slice HO_29.out
                subst eo128
                go_wp2
                go_meet
                case rel => exact ⟨_, (t547), (by first | rfl | (simp; done) | (simp [*]; done) | (simp [bne]; done)), H', ⟨by have := HJ11.out; have := HJ55.out; have := HJ93.out; first | omega | exact Nat.le_refl _⟩, ⟨qR HO_29⟩, ⟨qR HO_539001⟩, ⟨qB BK538⟩, ⟨qD HB⟩⟩
              · rw [if_neg c127] at H
                have c127b0 : ((t539.length : Int) == 0) = false := beq_eq_false_iff_ne.mpr c127
                have c127b1 : ((t539.length : Int) != 0) = true := bne_iff_ne.mpr c127
                have c127b2 : ¬ (t539 = []) := fun h_ => c127 (by rw [h_]; rfl)
                (first | rw [c127b0] | (simp only [i64_w, i32_w]; rw [c127b0]) | skip)
                have H' := Aside0.mk H
                clear H
                obtain ⟨Ao129, co129, eo129⟩ := Kd.R_slice HO_29.out
                subst eo129
                go_wp2
                go_meet
                case rel => exact ⟨_, (false), (by first | rfl | (simp; done) | (simp [*]; done) | (simp [bne]; done)), H', ⟨by have := HJ11.out; have := HJ55.out; have := HJ93.out; first | omega | exact Nat.le_refl _⟩, ⟨qR HO_29⟩, ⟨qR HO_539001⟩, ⟨qB BK538⟩, ⟨qD HB⟩⟩
            · replace c126 := Bool.eq_false_iff.mpr c126
              subst c126
              have H1 : (none) = some r := by rw [if_neg (show ¬ (false = true) by decide)] at H; exact H
              exact absurd H1 (by simp)
          · replace c125 := Bool.eq_false_iff.mpr c125
            subst c125
            have H1 : (none) = some r := by rw [if_neg (show ¬ (false = true) by decide)] at H; exact H
            exact absurd H1 (by simp)
        case rest =>
          clear HC122
          try clear c1
          try clear c2
          try clear p2
          try clear c3
          try clear c4
          try clear c5
          try clear p5
          try clear q5
          try clear hx5
          try clear c6
          try clear p6
          try clear c7
          try clear c8
          try clear c10
          try clear c11
          try clear c12
          try clear c19
          try clear c19b0
          try clear c19b1
          try clear c19b2
          try clear c20
          try clear c20b0
          try clear c20b1
          try clear c20b2
          try clear c21
          try clear c21b0
          try clear c21b1
          try clear c21b2
          try clear c23
          try clear c24
          try clear c24b0
          try clear c24b1
          try clear c24b2
          try clear c28
          try clear c29
          try clear c29b0
          try clear c29b1
          try clear c29b2
          try clear c30
          try clear c34
          try clear c35
          try clear p52
          try clear q52
          try clear hx52
          try clear c54
          try clear c55
          try clear c56
          try clear c57
          try clear c58
          try clear c59
          try clear c59b0
          try clear c59b1
          try clear c60
          try clear c60b0
          try clear c60b1
          try clear c60b2
          try clear c61
          try clear c61b0
          try clear c61b1
          try clear c61b2
          try clear c62
          try clear c62b0
          try clear c63
          try clear c64
          try clear p64
          try clear c65
          try clear c66
          try clear c66b0
          try clear c67
          try clear c68
          try clear c69
          try clear c69b0
          try clear c71
          try clear c71b0
          try clear c72
          try clear c72b0
          try clear c73
          try clear c73b0
          try clear c75
          try clear c75b0
          try clear c75b1
          try clear c76
          try clear c76b0
          try clear c76b1
          try clear c77
          try clear c77b0
          try clear c78
          try clear c78b0
          try clear c78b1
          try clear c80
          try clear c81
          try clear c82
          try clear c82b0
          try clear c82b1
          try clear c84
          try clear c85
          try clear c87
          try clear c88
          try clear c106
          try clear c106b0
          try clear c106b1
          try clear c106b2
          try clear c108
          try clear c109
          try clear c109b0
          try clear c109b1
          try clear c109b2
          try clear c112
          try clear c112b0
          try clear c112b1
          try clear c112b2
          try clear c119
          try clear c120
          try clear c125
          try clear c126
          try clear c127
          try clear c127b0
          try clear c127b1
          try clear c127b2
          try clear hcz100_0
          try clear hcz100_1
          try clear hcz102_0
          try clear hcz102_1
          try clear hcz104_0
          try clear hcz104_1
          try clear hcz123_0
          try clear hcz123_1
          try clear hcz97_0
          try clear hcz97_1
          try clear hfz100_0
          try clear hfz100_1
          try clear hfz102_0
          try clear hfz102_1
          try clear hfz104_0
          try clear hfz104_1
          try clear hfz123_0
          try clear hfz123_1
          try clear hfz97_0
          try clear hfz97_1
          try clear hx527_0
          try clear p2
          try clear p5
          try clear p52
          try clear p527
          try clear p6
          try clear p64
          try clear q5
          try clear q52
          try clear q527
          obtain ⟨kq, x294_121, rfl, HA, HJ121, HO_29, HO_539001, BK538, HB⟩ := hcut
          cases kq with
          | zero => exact absurd HA.out (by simp [laws_FnPlacesAndLasts.j7])
          | succ kj121 =>
            have H := HA.out
            clear HA
            simp only [laws_FnPlacesAndLasts.j7] at H
            by_cases c130 : x294_121 = true
            · subst c130
              have H1 : (none) = some r := by rw [if_pos rfl] at H; exact H
              exact absurd H1 (by simp)
            · replace c130 := Bool.eq_false_iff.mpr c130
              subst c130
              have H1 : (laws_FnPlacesAndLasts.l2 kj121 t539 t547 0 t534 t535) = some r := by rw [if_neg (show ¬ (false = true) by decide)] at H; exact H
              clear H
              have H := H1
              clear H1
              have H' := Aside0.mk H
              clear H
              go_wp2
              go_loopg [39] kj121 (fun kq v39 w' => ∃ (x39_5 : Int), v39 = .int .i64 x39_5 ∧ Aside0 (laws_FnPlacesAndLasts.l2 kq t539 t547 x39_5 t534 t535 = some r) ∧ Aside0 (kq ≤ kj121) ∧ Aside0 (Kd.R (Kd.int .i64) 3 w' w.heap.size (fun k_ => some k_ ≠ ((.slice Ao98 t535.length co98) : Value).ownBlock) v540 t539) ∧ Aside0 (Kd.R (Kd.int .i64) 3 w' w.heap.size (fun k_ => some k_ ≠ (v540 : Value).ownBlock) (.slice Ao98 t535.length co98) t535) ∧ Aside0 (w'.heap[gb538]? = some (.cells #[.int .i64 t534, (.slice Ao98 t535.length co98)] 26 (0, 0))) ∧ Aside0 (Below w.heap.size w w'))
              case atStart => exact ⟨(0), (by first | rfl | (simp; done) | (simp [*]; done) | (simp [bne]; done)), H', ⟨Nat.le_refl _⟩, ⟨qR HO_29⟩, ⟨qR HO_539001⟩, ⟨qB BK538⟩, ⟨qD HB⟩⟩
              case round =>
                clear H'
                try clear c1
                try clear c2
                try clear p2
                try clear c3
                try clear c4
                try clear c5
                try clear p5
                try clear q5
                try clear hx5
                try clear c6
                try clear p6
                try clear c7
                try clear c8
                try clear c10
                try clear c11
                try clear c12
                try clear c13
                try clear c19
                try clear c19b0
                try clear c19b1
                try clear c19b2
                try clear c20
                try clear c20b0
                try clear c20b1
                try clear c20b2
                try clear c21
                try clear c21b0
                try clear c21b1
                try clear c21b2
                try clear c23
                try clear c24
                try clear c24b0
                try clear c24b1
                try clear c24b2
                try clear c28
                try clear c29
                try clear c29b0
                try clear c29b1
                try clear c29b2
                try clear c30
                try clear c34
                try clear c35
                try clear p52
                try clear q52
                try clear hx52
                try clear c54
                try clear c55
                try clear c56
                try clear c57
                try clear c58
                try clear c59
                try clear c59b0
                try clear c59b1
                try clear c60
                try clear c60b0
                try clear c60b1
                try clear c60b2
                try clear c61
                try clear c61b0
                try clear c61b1
                try clear c61b2
                try clear c62
                try clear c62b0
                try clear c63
                try clear c64
                try clear p64
                try clear c65
                try clear c66
                try clear c66b0
                try clear c67
                try clear c68
                try clear c69
                try clear c69b0
                try clear c71
                try clear c71b0
                try clear c72
                try clear c72b0
                try clear c73
                try clear c73b0
                try clear c75
                try clear c75b0
                try clear c75b1
                try clear c76
                try clear c76b0
                try clear c76b1
                try clear c77
                try clear c77b0
                try clear c78
                try clear c78b0
                try clear c78b1
                try clear c80
                try clear c81
                try clear c82
                try clear c82b0
                try clear c82b1
                try clear c84
                try clear c85
                try clear c87
                try clear c88
                try clear c106
                try clear c106b0
                try clear c106b1
                try clear c106b2
                try clear c108
                try clear c109
                try clear c109b0
                try clear c109b1
                try clear c109b2
                try clear c112
                try clear c112b0
                try clear c112b1
                try clear c112b2
                try clear c119
                try clear c120
                try clear c125
                try clear c126
                try clear c127
                try clear c127b0
                try clear c127b1
                try clear c127b2
                try clear c130
                try clear hcz100_0
                try clear hcz100_1
                try clear hcz102_0
                try clear hcz102_1
                try clear hcz104_0
                try clear hcz104_1
                try clear hcz123_0
                try clear hcz123_1
                try clear hcz97_0
                try clear hcz97_1
                try clear hfz100_0
                try clear hfz100_1
                try clear hfz102_0
                try clear hfz102_1
                try clear hfz104_0
                try clear hfz104_1
                try clear hfz123_0
                try clear hfz123_1
                try clear hfz97_0
                try clear hfz97_1
                try clear hx527_0
                try clear p2
                try clear p5
                try clear p52
                try clear p527
                try clear p6
                try clear p64
                try clear q5
                try clear q52
                try clear q527
                obtain ⟨x39_5, rfl, HA, HK5, HO_29, HO_539001, BK538, HB⟩ := hrel
                cases gk with
                | zero => exact absurd HA.out (by simp [laws_FnPlacesAndLasts.l2])
                | succ k5 =>
                  have H := HA.out
                  clear HA
                  simp only [laws_FnPlacesAndLasts.l2] at H
                  by_cases c131 : x39_5 < (wrap64 (t534 - 1))
                  · rw [if_pos c131] at H
                    have c131b0 : decide (x39_5 < (wrap64 (t534 - 1))) = true := decide_eq_true c131
                    clear c131
                    replace H := Option.bind_eq_some_iff.mp H
                    obtain ⟨⟨t554, t555, t558⟩, A1320, H⟩ := H
                    replace H : ((impl_IsLeast.f k5 t554 t555).bind fun bt560 => (if t558 = true then (if bt560.2 = true then ((laws_nHas.f k5 t539 x39_5).bind fun t562 => (laws_FnPlacesAndLasts.j9 k5 t539 t547 x39_5 bt560.1 (bt560.1 != t562) t534 t535 t554 t555)) else (none)) else (none))) = some r := H
                    have A132 := Aside0.mk A1320
                    clear A1320
                    replace H := Option.bind_eq_some_iff.mp H
                    obtain ⟨⟨t560, t561⟩, A1330, H⟩ := H
                    replace H : (if t558 = true then (if t561 = true then ((laws_nHas.f k5 t539 x39_5).bind fun t562 => (laws_FnPlacesAndLasts.j9 k5 t539 t547 x39_5 t560 (t560 != t562) t534 t535 t554 t555)) else (none)) else (none)) = some r := H
                    have A133 := Aside0.mk A1330
                    clear A1330
                    have HC134 := Aside0.mk H
                    clear H
                    have hcz135_0 := cl BK538 0
                    have hcz135_1 := cl BK538 1
                    have hfz135_0 := blk_frozen BK538.out 0
                    have hfz135_1 := blk_frozen BK538.out 1
                    go_upto_region 52 with (first | ((with_reducible refine gate_callee (f := 69) rfl ?_); refine gs (some 308) Try.func69 #[.agg #[.int .i64 t534, .slice Ao98 t535.length co98], .int .i64 (t535.length : Int), .int .i64 x39_5] ?_; (with_reducible refine (impl_AddRung.calls k5 t534 _ _ t535 (t535.length : Int) x39_5 t554 t555 t558 _ ?side1 ?side2 A132.out).mono ?_); (case side1 => exact qC (Kd.R_reads' HO_539001.out).2.2); (case side2 => exact (Kd.R_reads' HO_539001.out).2.1); rintro e w136 ⟨v556, rfl, ho0, hb⟩; refine ⟨_, rfl, ?_⟩; have HO557 := Aside0.mk (Kd.R_lower (Kd.R_new' (Kd.R_new' ho0 (Kd.R_lt (qR HO_29))) (Kd.R_lt (qR HO_539001))) (below_size (qD HB))); replace HO_29 := eR HO_29 ho0 hb; replace HO_539001 := eR HO_539001 ho0 hb; replace BK538 := uB BK538 hb; replace HB := uD HB hb; (try clear hb); (try clear hb2); (try clear hk); (try clear hi); (try clear ho0)) | ((with_reducible refine gate_dst (N := 40) rfl ?_); (try (refine gate_guard (by rfl) ?_; dsimp only)); refine box_event ?hg (N := 40) ?hd (cs := #[.int .i64 0, .slice none 0 0]) (t := 26) ?hr ?_; (case hd => rfl); (case hg => rfl); (case hr => first | (go_simp; done) | (go_simp; rfl)); intro gb559 hg w137 hbox hb; replace HO_29 := uR HO_29 hb; replace HO_539001 := uR HO_539001 hb; replace HO557 := uR HO557 hb; have BK559 := Aside0.mk (hbox); have GW559 := gE hg HB; have GE559 := gE hg HB; replace HB := uD HB hb; have NB538_559 := nB hg BK538; have NB559_538 := nC hg BK538; replace BK538 := uB BK538 hb; clear hb hbox hg; have hnb138 := NB559_538.out; have hnc138 := NB538_559.out; have hcz139_0 := cl BK559 0; have hcz139_1 := cl BK559 1; have hfz139_0 := blk_frozen BK559.out 0; have hfz139_1 := blk_frozen BK559.out 1; obtain ⟨Ao140, co140, eo140⟩ := Kd.R_slice HO557.out; subst eo140) | ((with_reducible refine gate_callee (f := 68) rfl ?_); refine gs (some 313) Try.func68 #[.agg #[.int .i64 t554, .slice Ao140 t555.length co140]] ?_; (with_reducible refine (impl_IsLeast.calls k5 t554 _ _ t555 t560 t561 _ ?side1 ?side2 A133.out).mono ?_); (case side1 => refine (Kd.R_reads' (e := 3) (base := w.heap.size) (ok := fun k_ => ((True ∧ some k_ ≠ (v540 : Value).ownBlock) ∧ some k_ ≠ (.slice Ao98 t535.length co98 : Value).ownBlock)) (n := t555.length) (c := co140) ?_).2.2; exact (qFp (qF HO557 BK559))); (case side2 => exact (Kd.R_reads' HO557.out).2.1); rintro e w141 ⟨rfl, hb⟩; refine ⟨_, rfl, ?_⟩; have n0_ := Aside0.mk (Kd.R_below (qFp (qF HO_29 BK559)) hb); have n1_ := Aside0.mk (Kd.R_below (qFp (qF HO_539001 BK559)) hb); have n2_ := Aside0.mk (Kd.R_below (qFp (qF HO557 BK559)) hb); have n3_ := uB BK538 hb; have n4_ := Aside0.mk (blk_below (g := gb559) (o := .cells #[.int .i64 t554, .slice Ao140 t555.length co140] 26 (0, 0)) (by (with_reducible repeat (first | refine blk_drewN ?_ _ | refine blk_drew ?_ | refine blk_alloc ?_ _)); refine blk_put (cs := #[.int .i64 t554, .slice none 0 0]) ?_ 1 _ rfl; (with_reducible repeat (first | refine blk_drewN ?_ _ | refine blk_drew ?_ | refine blk_alloc ?_ _)); refine blk_put (cs := #[.int .i64 0, .slice none 0 0]) ?_ 0 _ rfl; (with_reducible repeat (first | refine blk_drewN ?_ _ | refine blk_drew ?_ | refine blk_alloc ?_ _)); exact BK559.out) hb); have n5_ := uD HB hb; clear HO_29; clear HO_539001; clear HO557; clear BK538; clear BK559; clear HB; have HO_29 := n0_; have HO_539001 := n1_; have HO557 := n2_; have BK538 := n3_; have BK559 := n4_; have HB := n5_; clear n0_ n1_ n2_ n3_ n4_ n5_; (try clear hb); (try clear hb2); (try clear hk); (try clear hi)))
                    (try simp only [Act.put, List.setIfInBounds_toArray, List.set_cons_zero, List.set_cons_succ])
                    go_cut [328] (fun v328 wc => ∃ (kq : Nat) (x328_133 : Bool), v328 = .bool x328_133 ∧ Aside0 (laws_FnPlacesAndLasts.j9 kq t539 t547 x39_5 t560 x328_133 t534 t535 t554 t555 = some r) ∧ Aside0 (kq ≤ k5) ∧ Aside0 (Kd.R (Kd.int .i64) 3 wc w.heap.size (fun k_ => some k_ ≠ ((.slice Ao98 t535.length co98) : Value).ownBlock ∧ some k_ ≠ ((.slice Ao140 t555.length co140) : Value).ownBlock) v540 t539) ∧ Aside0 (Kd.R (Kd.int .i64) 3 wc w.heap.size (fun k_ => some k_ ≠ (v540 : Value).ownBlock ∧ some k_ ≠ ((.slice Ao140 t555.length co140) : Value).ownBlock) (.slice Ao98 t535.length co98) t535) ∧ Aside0 (Kd.R (Kd.int .i64) 3 wc w.heap.size (fun k_ => some k_ ≠ (v540 : Value).ownBlock ∧ some k_ ≠ ((.slice Ao98 t535.length co98) : Value).ownBlock) (.slice Ao140 t555.length co140) t555) ∧ Aside0 (wc.heap[gb538]? = some (.cells #[.int .i64 t534, (.slice Ao98 t535.length co98)] 26 (0, 0))) ∧ Aside0 (wc.heap[gb559]? = some (.cells #[.int .i64 t554, (.slice Ao140 t555.length co140)] 26 (0, 0))) ∧ Aside0 (Below w.heap.size w wc))
                    case first =>
                      have H := HC134.out
                      clear HC134
                      by_cases c142 : t558 = true
                      · subst c142
                        have H1 : (if t561 = true then ((laws_nHas.f k5 t539 x39_5).bind fun t562 => (laws_FnPlacesAndLasts.j9 k5 t539 t547 x39_5 t560 (t560 != t562) t534 t535 t554 t555)) else (none)) = some r := by rw [if_pos rfl] at H; exact H
                        clear H
                        have H := H1
                        clear H1
                        by_cases c143 : t561 = true
                        · subst c143
                          have H1 : ((laws_nHas.f k5 t539 x39_5).bind fun t562 => (laws_FnPlacesAndLasts.j9 k5 t539 t547 x39_5 t560 (t560 != t562) t534 t535 t554 t555)) = some r := by rw [if_pos rfl] at H; exact H
                          clear H
                          have H := H1
                          clear H1
                          replace H := Option.bind_eq_some_iff.mp H
                          obtain ⟨t562, A1440, H⟩ := H
                          replace H : (laws_FnPlacesAndLasts.j9 k5 t539 t547 x39_5 t560 (t560 != t562) t534 t535 t554 t555) = some r := H
                          have A144 := Aside0.mk A1440
                          clear A1440
                          have H' := Aside0.mk H
                          clear H
                          obtain ⟨Ao145, co145, eo145⟩ := Kd.R_slice HO_29.out
                          subst eo145
                          go_wp2_with (first | (go_at_call 62; (with_reducible refine (laws_nHas.calls k5 _ _ t539 x39_5 t562 _ ?side1 ?side2 A144.out).mono ?_); (case side1 => exact qC (Kd.R_reads' HO_29.out).2.2); (case side2 => exact (Kd.R_reads' HO_29.out).2.1); rintro e w' ⟨rfl, ⟨nd, rfl⟩⟩))
                          go_meet
                          case rel => exact ⟨_, ((t560 != t562)), (by first | rfl | (simp; done) | (simp [*]; done) | (simp [bne]; done)), H', ⟨by have := HJ11.out; have := HJ55.out; have := HJ93.out; have := HJ121.out; have := HK5.out; first | omega | exact Nat.le_refl _⟩, ⟨qR HO_29⟩, ⟨qR HO_539001⟩, ⟨mR HO557 (fun _ hk => ⟨hk.1.2, hk.2⟩)⟩, ⟨qB BK538⟩, ⟨qB BK559⟩, ⟨qD HB⟩⟩
                        · replace c143 := Bool.eq_false_iff.mpr c143
                          subst c143
                          have H1 : (none) = some r := by rw [if_neg (show ¬ (false = true) by decide)] at H; exact H
                          exact absurd H1 (by simp)
                      · replace c142 := Bool.eq_false_iff.mpr c142
                        subst c142
                        have H1 : (none) = some r := by rw [if_neg (show ¬ (false = true) by decide)] at H; exact H
                        exact absurd H1 (by simp)
                    case rest =>
                      clear HC134
                      try clear c1
                      try clear c2
                      try clear p2
                      try clear c3
                      try clear c4
                      try clear c5
                      try clear p5
                      try clear q5
                      try clear hx5
                      try clear c6
                      try clear p6
                      try clear c7
                      try clear c8
                      try clear c10
                      try clear c11
                      try clear c12
                      try clear c13
                      try clear c14
                      try clear c19
                      try clear c19b0
                      try clear c19b1
                      try clear c19b2
                      try clear c20
                      try clear c20b0
                      try clear c20b1
                      try clear c20b2
                      try clear c21
                      try clear c21b0
                      try clear c21b1
                      try clear c21b2
                      try clear c23
                      try clear c24
                      try clear c24b0
                      try clear c24b1
                      try clear c24b2
                      try clear c28
                      try clear c29
                      try clear c29b0
                      try clear c29b1
                      try clear c29b2
                      try clear c30
                      try clear c34
                      try clear c35
                      try clear p52
                      try clear q52
                      try clear hx52
                      try clear c54
                      try clear c55
                      try clear c56
                      try clear c57
                      try clear c58
                      try clear c59
                      try clear c59b0
                      try clear c59b1
                      try clear c60
                      try clear c60b0
                      try clear c60b1
                      try clear c60b2
                      try clear c61
                      try clear c61b0
                      try clear c61b1
                      try clear c61b2
                      try clear c62
                      try clear c62b0
                      try clear c63
                      try clear c64
                      try clear p64
                      try clear c65
                      try clear c66
                      try clear c66b0
                      try clear c67
                      try clear c68
                      try clear c69
                      try clear c69b0
                      try clear c71
                      try clear c71b0
                      try clear c72
                      try clear c72b0
                      try clear c73
                      try clear c73b0
                      try clear c75
                      try clear c75b0
                      try clear c75b1
                      try clear c76
                      try clear c76b0
                      try clear c76b1
                      try clear c77
                      try clear c77b0
                      try clear c78
                      try clear c78b0
                      try clear c78b1
                      try clear c80
                      try clear c81
                      try clear c82
                      try clear c82b0
                      try clear c82b1
                      try clear c84
                      try clear c85
                      try clear c87
                      try clear c88
                      try clear c106
                      try clear c106b0
                      try clear c106b1
                      try clear c106b2
                      try clear c108
                      try clear c109
                      try clear c109b0
                      try clear c109b1
                      try clear c109b2
                      try clear c112
                      try clear c112b0
                      try clear c112b1
                      try clear c112b2
                      try clear c119
                      try clear c120
                      try clear c125
                      try clear c126
                      try clear c127
                      try clear c127b0
                      try clear c127b1
                      try clear c127b2
                      try clear c130
                      try clear c131
                      try clear c131b0
                      try clear c138
                      try clear c142
                      try clear c143
                      try clear hcz100_0
                      try clear hcz100_1
                      try clear hcz102_0
                      try clear hcz102_1
                      try clear hcz104_0
                      try clear hcz104_1
                      try clear hcz123_0
                      try clear hcz123_1
                      try clear hcz135_0
                      try clear hcz135_1
                      try clear hcz139_0
                      try clear hcz139_1
                      try clear hcz97_0
                      try clear hcz97_1
                      try clear hfz100_0
                      try clear hfz100_1
                      try clear hfz102_0
                      try clear hfz102_1
                      try clear hfz104_0
                      try clear hfz104_1
                      try clear hfz123_0
                      try clear hfz123_1
                      try clear hfz135_0
                      try clear hfz135_1
                      try clear hfz139_0
                      try clear hfz139_1
                      try clear hfz97_0
                      try clear hfz97_1
                      try clear hx527_0
                      try clear p2
                      try clear p5
                      try clear p52
                      try clear p527
                      try clear p6
                      try clear p64
                      try clear q5
                      try clear q52
                      try clear q527
                      obtain ⟨kq, x328_133, rfl, HA, HJ133, HO_29, HO_539001, HO_560001, BK538, BK559, HB⟩ := hcut
                      cases kq with
                      | zero => exact absurd HA.out (by simp [laws_FnPlacesAndLasts.j9])
                      | succ kj133 =>
                        have H := HA.out
                        clear HA
                        simp only [laws_FnPlacesAndLasts.j9] at H
                        by_cases c146 : x328_133 = true
                        · subst c146
                          have H1 : (none) = some r := by rw [if_pos rfl] at H; exact H
                          exact absurd H1 (by simp)
                        · replace c146 := Bool.eq_false_iff.mpr c146
                          subst c146
                          have H1 : (if t560 = true then ((impl_LastWins.f kj133 t554 t555).bind fun bt563 => (if bt563.2 = true then (if (bt563.1 == t547) = true then (none) else (laws_FnPlacesAndLasts.l2 kj133 t539 t547 (wrap64 (x39_5 + 1)) t534 t535)) else (none))) else (laws_FnPlacesAndLasts.l2 kj133 t539 t547 (wrap64 (x39_5 + 1)) t534 t535)) = some r := by rw [if_neg (show ¬ (false = true) by decide)] at H; exact H
                          clear H
                          have H := H1
                          clear H1
                          by_cases c147 : t560 = true
                          · subst c147
                            have H1 : ((impl_LastWins.f kj133 t554 t555).bind fun bt563 => (if bt563.2 = true then (if (bt563.1 == t547) = true then (none) else (laws_FnPlacesAndLasts.l2 kj133 t539 t547 (wrap64 (x39_5 + 1)) t534 t535)) else (none))) = some r := by rw [if_pos rfl] at H; exact H
                            clear H
                            have H := H1
                            clear H1
                            replace H := Option.bind_eq_some_iff.mp H
                            obtain ⟨⟨t563, t564⟩, A1480, H⟩ := H
                            replace H : (if t564 = true then (if (t563 == t547) = true then (none) else (laws_FnPlacesAndLasts.l2 kj133 t539 t547 (wrap64 (x39_5 + 1)) t534 t535)) else (none)) = some r := H
                            have A148 := Aside0.mk A1480
                            clear A1480
                            by_cases c149 : t564 = true
                            · subst c149
                              have H1 : (if (t563 == t547) = true then (none) else (laws_FnPlacesAndLasts.l2 kj133 t539 t547 (wrap64 (x39_5 + 1)) t534 t535)) = some r := by rw [if_pos rfl] at H; exact H
                              clear H
                              have H := H1
                              clear H1
                              by_cases c150 : (t563 == t547) = true
                              · rw [if_pos c150] at H
                                exact absurd H (by simp)
                              · rw [if_neg c150] at H
                                have c150b0 : (t563 == t547) = false := by simpa using c150
                                (try (have c150b1 : decide (t563 = t547) = false := by simpa using c150))
                                (try (have c150b2 : (t563 == t547) = false := by simpa using c150))
                                (try (have c150b3 : ¬ (t563 = t547) := by simpa using c150))
                                clear c150
                                have H' := Aside0.mk H
                                clear H
                                have hnb154 := NB559_538.out
                                have hnc154 := NB538_559.out
                                have hcz155_0 := cl BK559 0
                                have hcz155_1 := cl BK559 1
                                have hfz155_0 := blk_frozen BK559.out 0
                                have hfz155_1 := blk_frozen BK559.out 1
                                go_wp2_with (first | ((with_reducible refine gate_callee (f := 66) rfl ?_); refine gs (some 332) Try.func66 #[.agg #[.int .i64 t554, .slice Ao140 t555.length co140]] ?_; (with_reducible refine (impl_LastWins.calls kj133 t554 _ _ t555 t563 true _ ?side1 ?side2 A148.out).mono ?_); (case side1 => exact qC (Kd.R_reads' HO_560001.out).2.2); (case side2 => exact (Kd.R_reads' HO_560001.out).2.1); rintro e w156 ⟨rfl, hb⟩; refine ⟨_, rfl, ?_⟩; replace HO_29 := uR HO_29 hb; replace HO_539001 := uR HO_539001 hb; replace HO_560001 := uR HO_560001 hb; replace BK538 := uB BK538 hb; replace BK559 := uB BK559 hb; replace HB := uD HB hb; (try clear hb); (try clear hb2); (try clear hk); (try clear hi)))
                                go_roundg kj133
                                case measure => have := HJ11.out; have := HJ55.out; have := HJ93.out; have := HJ121.out; have := HK5.out; have := HJ133.out; omega
                                case rel => exact ⟨(wrap64 (x39_5 + 1)), (by first | rfl | (simp; done) | (simp [*]; done) | (simp [bne]; done)), H', ⟨by have := HJ11.out; have := HJ55.out; have := HJ93.out; have := HJ121.out; have := HK5.out; have := HJ133.out; omega⟩, ⟨mR HO_29 (fun _ hk => hk.1)⟩, ⟨mR HO_539001 (fun _ hk => hk.1)⟩, ⟨qB BK538⟩, ⟨qD HB⟩⟩
                            · replace c149 := Bool.eq_false_iff.mpr c149
                              subst c149
                              have H1 : (none) = some r := by rw [if_neg (show ¬ (false = true) by decide)] at H; exact H
                              exact absurd H1 (by simp)
                          · replace c147 := Bool.eq_false_iff.mpr c147
                            subst c147
                            have H1 : (laws_FnPlacesAndLasts.l2 kj133 t539 t547 (wrap64 (x39_5 + 1)) t534 t535) = some r := by rw [if_neg (show ¬ (false = true) by decide)] at H; exact H
                            clear H
                            have H := H1
                            clear H1
                            have H' := Aside0.mk H
                            clear H
                            go_wp2
                            go_roundg kj133
                            case measure => have := HJ11.out; have := HJ55.out; have := HJ93.out; have := HJ121.out; have := HK5.out; have := HJ133.out; omega
                            case rel => exact ⟨(wrap64 (x39_5 + 1)), (by first | rfl | (simp; done) | (simp [*]; done) | (simp [bne]; done)), H', ⟨by have := HJ11.out; have := HJ55.out; have := HJ93.out; have := HJ121.out; have := HK5.out; have := HJ133.out; omega⟩, ⟨mR HO_29 (fun _ hk => hk.1)⟩, ⟨mR HO_539001 (fun _ hk => hk.1)⟩, ⟨qB BK538⟩, ⟨qD HB⟩⟩
                  · rw [if_neg c131] at H
                    have c131b0 : decide (x39_5 < (wrap64 (t534 - 1))) = false := decide_eq_false c131
                    clear c131
                    obtain rfl := Option.some.inj H
                    have hcz160_0 := cl BK538 0
                    have hcz160_1 := cl BK538 1
                    have hfz160_0 := blk_frozen BK538.out 0
                    have hfz160_1 := blk_frozen BK538.out 1
                    go_wp2
                    go_ret
                    exact ⟨by first | rfl | (simp [errW_none, errW_some] <;> rfl) | (simp [*, errW_none, errW_some] <;> rfl), qD HB⟩
      · replace c120 := Bool.eq_false_iff.mpr c120
        subst c120
        have H1 : (some true) = some r := by rw [if_neg (show ¬ (false = true) by decide)] at H; exact H
        clear H
        have H := H1
        clear H1
        obtain rfl := Option.some.inj H
        go_wp2
        go_ret
        exact ⟨by first | rfl | (simp [errW_none, errW_some] <;> rfl) | (simp [*, errW_none, errW_some] <;> rfl), qD HB⟩


end Go.Proofs.Ytlmlamkbedfmhaa.P
end
