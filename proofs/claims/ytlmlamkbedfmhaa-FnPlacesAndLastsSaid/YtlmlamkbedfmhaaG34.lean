-- Put together by wip/merge.py (a program of this session's) out of this claim's texts; Lean checks it.
import Derived.Test.YtlmlamkbedfmhaaG33
import Derived.Test.YtlmlamkbedfmhaaG32
import Derived.Test.YtlmlamkbedfmhaaG22
import Derived.Test.YtlmlamkbedfmhaaG23
import Derived.Test.YtlmlamkbedfmhaaG25
import Derived.Test.YtlmlamkbedfmhaaG26
import Derived.Test.YtlmlamkbedfmhaaG27
section
namespace Go.Proofs.Ytlmlamkbedfmhaa.P
open Go.RowKit Go.Proofs.YtlmlamkbedfmhaaW.PrintWords Go.Proofs.YtlmlamkbedfmhaaW.PrintLast Go.Proofs.YtlmlamkbedfmhaaW.PrintMore
attribute [local go_sem] max2_int min2_int max_two min_two max_three min_three max_four min_four   -- for this text's walks alone
set_option linter.unusedVariables false
set_option linter.unusedSimpArgs false

set_option maxHeartbeats 8000000 in
set_option maxRecDepth 100000 in
theorem laws_FnPlacesAndLasts.tail11 {k : Nat} {A0 : Option Addr} {c0 : Nat} {l0 : List Int} {A1 : Option Addr} {c1 : Nat} {l1 : List Int} {r : Bool} {w : World} {t500 t501 t502 t503 : Int} {t504 t505 t506 t507 t509 t513 t517 t521 : Bool} {v510 v514 v518 v522 : Value} {kj11 : Nat} {wc : World} {u4 u22 u23 u24 u25 u26 u27 u46 u47 u48 u49 u50 u51 u52 u53 u54 u55 u56 u57 u58 u59 u60 u61 u62 u63 u64 u65 u66 u67 u68 u69 u70 u71 u72 u73 u74 u75 u76 u77 u78 u79 u80 u81 u82 u83 u84 u85 u86 u87 u88 u89 u90 u91 u92 u93 u94 u95 u96 u97 u98 u99 u100 u101 u102 u103 u104 u105 u106 u107 u108 u109 u110 u111 u112 u113 u114 u115 u116 u117 u118 u119 u120 u121 u122 u123 u124 u125 u126 u127 u128 u129 u130 u131 u132 u133 u134 u135 u136 u137 u138 u139 u140 u141 u142 u143 u144 u145 u146 u147 u148 u149 u150 u151 u152 u153 u154 u155 u156 u157 u158 u159 u160 u161 u162 u163 u164 u165 u166 u167 u168 u169 u170 u171 u172 u173 u174 u175 u176 u177 u178 u179 u180 u181 u182 u183 u184 u185 u186 u187 u188 u189 u190 u191 u192 u193 u194 u195 u196 u197 u198 u199 u200 u201 u202 u203 u204 u205 u206 u207 u208 u209 u210 u211 u212 u213 u214 u215 u216 u217 u218 u219 u220 u221 u222 u223 u224 u225 u226 u227 u228 u229 u230 u231 u232 u233 u234 u235 u236 u237 u238 u239 u240 u241 u242 u243 u244 u245 u246 u247 u248 u249 u250 u251 u252 u253 u254 u255 u256 u257 u258 u259 u260 u261 u262 u263 u264 u265 u266 u267 u268 u269 u270 u271 u272 u273 u274 u275 u276 u277 u278 u279 u280 u281 u282 u283 u284 u285 u286 u287 u288 u289 u290 u291 u292 u293 u294 u295 u296 u297 u298 u299 u300 u301 u302 u303 u304 u305 u306 u307 u308 u309 u310 u311 u312 u313 u314 u315 u316 u317 u318 u319 u320 u321 u322 u323 u324 u325 u326 u327 u328 u329 u330 u331 u332 u333 u334 u335 u336 u337 u338 u339 u340 u341 : Value} {kq : Nat} (nd : Nat) (HR1 : Aside0 ((Kd.int IntKind.u8).C w A1 l1.length l1)) (HC1 : Aside0 (l1.length ≤ c1)) (HJ11 : Aside0 (kj11 + 1 ≤ k)) (HA : Aside0 (j5 kq l1 = some r)) (HJ55 : Aside0 (kq ≤ kj11)) (HB : Aside0 (Below w.heap.size w wc)) :
    Code.wp Try.prog (sndC (sndC (sndC (sndC (sndC (sndC (sndC (sndC (sndC (sndC (sndC ((Try.f8.body.getD .skip))))))))))))) (bodyPost Try.prog Try.f8 fun e w' => e = .returned (.bool r) ∧ Below w.heap.size w w') { tmps := List.toArray (Value.slice A0 l0.length c0 :: Value.slice A1 l1.length c1 :: undef :: undef :: u4 :: Value.int IntKind.i64 t500 :: Value.int IntKind.i64 t501 :: Value.int IntKind.i64 t502 :: Value.int IntKind.i64 t503 :: Value.bool t504 :: Value.bool t505 :: Value.bool t506 :: Value.bool t507 :: v510 :: Value.bool t509 :: v514 :: Value.bool t513 :: v518 :: Value.bool t517 :: v522 :: Value.bool t521 :: undef :: u22 :: u23 :: u24 :: u25 :: u26 :: u27 :: undef :: undef :: undef :: undef :: undef :: undef :: undef :: undef :: undef :: undef :: undef :: undef :: undef :: undef :: undef :: undef :: undef :: undef :: u46 :: u47 :: u48 :: u49 :: u50 :: u51 :: u52 :: u53 :: u54 :: u55 :: u56 :: u57 :: u58 :: u59 :: u60 :: u61 :: u62 :: u63 :: u64 :: u65 :: u66 :: u67 :: u68 :: u69 :: u70 :: u71 :: u72 :: u73 :: u74 :: u75 :: u76 :: u77 :: u78 :: u79 :: u80 :: u81 :: u82 :: u83 :: u84 :: u85 :: u86 :: u87 :: u88 :: u89 :: u90 :: u91 :: u92 :: u93 :: u94 :: u95 :: u96 :: u97 :: u98 :: u99 :: u100 :: u101 :: u102 :: u103 :: u104 :: u105 :: u106 :: u107 :: u108 :: u109 :: u110 :: u111 :: u112 :: u113 :: u114 :: u115 :: u116 :: u117 :: u118 :: u119 :: u120 :: u121 :: u122 :: u123 :: u124 :: u125 :: u126 :: u127 :: u128 :: u129 :: u130 :: u131 :: u132 :: u133 :: u134 :: u135 :: u136 :: u137 :: u138 :: u139 :: u140 :: u141 :: u142 :: u143 :: u144 :: u145 :: u146 :: u147 :: u148 :: u149 :: u150 :: u151 :: u152 :: u153 :: u154 :: u155 :: u156 :: u157 :: u158 :: u159 :: u160 :: u161 :: u162 :: u163 :: u164 :: u165 :: u166 :: u167 :: u168 :: u169 :: u170 :: u171 :: u172 :: u173 :: u174 :: u175 :: u176 :: u177 :: u178 :: u179 :: u180 :: u181 :: u182 :: u183 :: u184 :: u185 :: u186 :: u187 :: u188 :: u189 :: u190 :: u191 :: u192 :: u193 :: u194 :: u195 :: u196 :: u197 :: u198 :: u199 :: u200 :: u201 :: u202 :: u203 :: u204 :: u205 :: u206 :: u207 :: u208 :: u209 :: u210 :: u211 :: u212 :: u213 :: u214 :: u215 :: u216 :: u217 :: u218 :: u219 :: u220 :: u221 :: u222 :: u223 :: u224 :: u225 :: u226 :: u227 :: u228 :: u229 :: u230 :: u231 :: u232 :: u233 :: u234 :: u235 :: u236 :: u237 :: u238 :: u239 :: u240 :: u241 :: u242 :: u243 :: u244 :: u245 :: u246 :: u247 :: u248 :: u249 :: u250 :: u251 :: u252 :: u253 :: u254 :: u255 :: u256 :: u257 :: u258 :: u259 :: u260 :: u261 :: u262 :: u263 :: u264 :: u265 :: u266 :: u267 :: u268 :: u269 :: u270 :: u271 :: u272 :: u273 :: u274 :: u275 :: u276 :: u277 :: u278 :: u279 :: u280 :: u281 :: u282 :: u283 :: u284 :: u285 :: u286 :: u287 :: u288 :: u289 :: u290 :: u291 :: u292 :: u293 :: u294 :: u295 :: u296 :: u297 :: u298 :: u299 :: u300 :: u301 :: u302 :: u303 :: u304 :: u305 :: u306 :: u307 :: u308 :: u309 :: u310 :: u311 :: u312 :: u313 :: u314 :: u315 :: u316 :: u317 :: u318 :: u319 :: u320 :: u321 :: u322 :: u323 :: u324 :: u325 :: u326 :: u327 :: u328 :: u329 :: u330 :: u331 :: u332 :: u333 :: u334 :: u335 :: u336 :: u337 :: u338 :: u339 :: u340 :: u341 :: []), defers := [] } wc := by
  conv => arg 2; whnf
  cases kq with
  | zero => exact absurd HA.out (by simp [laws_FnPlacesAndLasts.j5])
  | succ kj55 =>
    have H := HA.out
    clear HA
    simp only [laws_FnPlacesAndLasts.j5] at H
    replace H := Option.bind_eq_some_iff.mp H
    obtain ⟨⟨t534, t535⟩, A890, H⟩ := H
    replace H : ((impl_LastMoves.f kj55 t534 t535).bind fun bt539 => ((spec_LastMoves.f kj55 t534 t535).bind fun bt543 => ((impl_LastWins.f kj55 t534 t535).bind fun bt547 => ((spec_LastWins.f kj55 t534 t535).bind fun bt549 => (if (bt539.2 != bt543.2) = true then (none) else ((laws_nSame.f kj55 bt539.1 bt543.1).bind fun t551 => (if t551 = true then (if (bt547.2 != bt549.2) = true then (none) else (if (bt547.1 != bt549.1) = true then (none) else (laws_FnPlacesAndLasts.j6 kj55 bt539.1 bt539.2 bt547.1 (bt547.2 != bt539.2) t534 t535))) else (none)))))))) = some r := H
    have A89 := Aside0.mk A890
    clear A890
    replace H := Option.bind_eq_some_iff.mp H
    obtain ⟨⟨t539, t542⟩, A900, H⟩ := H
    replace H : ((spec_LastMoves.f kj55 t534 t535).bind fun bt543 => ((impl_LastWins.f kj55 t534 t535).bind fun bt547 => ((spec_LastWins.f kj55 t534 t535).bind fun bt549 => (if (t542 != bt543.2) = true then (none) else ((laws_nSame.f kj55 t539 bt543.1).bind fun t551 => (if t551 = true then (if (bt547.2 != bt549.2) = true then (none) else (if (bt547.1 != bt549.1) = true then (none) else (laws_FnPlacesAndLasts.j6 kj55 t539 t542 bt547.1 (bt547.2 != t542) t534 t535))) else (none))))))) = some r := H
    have A90 := Aside0.mk A900
    clear A900
    replace H := Option.bind_eq_some_iff.mp H
    obtain ⟨⟨t543, t546⟩, A910, H⟩ := H
    replace H : ((impl_LastWins.f kj55 t534 t535).bind fun bt547 => ((spec_LastWins.f kj55 t534 t535).bind fun bt549 => (if (t542 != t546) = true then (none) else ((laws_nSame.f kj55 t539 t543).bind fun t551 => (if t551 = true then (if (bt547.2 != bt549.2) = true then (none) else (if (bt547.1 != bt549.1) = true then (none) else (laws_FnPlacesAndLasts.j6 kj55 t539 t542 bt547.1 (bt547.2 != t542) t534 t535))) else (none)))))) = some r := H
    have A91 := Aside0.mk A910
    clear A910
    replace H := Option.bind_eq_some_iff.mp H
    obtain ⟨⟨t547, t548⟩, A920, H⟩ := H
    replace H : ((spec_LastWins.f kj55 t534 t535).bind fun bt549 => (if (t542 != t546) = true then (none) else ((laws_nSame.f kj55 t539 t543).bind fun t551 => (if t551 = true then (if (t548 != bt549.2) = true then (none) else (if (t547 != bt549.1) = true then (none) else (laws_FnPlacesAndLasts.j6 kj55 t539 t542 t547 (t548 != t542) t534 t535))) else (none))))) = some r := H
    have A92 := Aside0.mk A920
    clear A920
    replace H := Option.bind_eq_some_iff.mp H
    obtain ⟨⟨t549, t550⟩, A930, H⟩ := H
    replace H : (if (t542 != t546) = true then (none) else ((laws_nSame.f kj55 t539 t543).bind fun t551 => (if t551 = true then (if (t548 != t550) = true then (none) else (if (t547 != t549) = true then (none) else (laws_FnPlacesAndLasts.j6 kj55 t539 t542 t547 (t548 != t542) t534 t535))) else (none)))) = some r := H
    have A93 := Aside0.mk A930
    clear A930
    have HC94 := Aside0.mk H
    clear H
    go_upto_region 41 with (first | ((with_reducible refine gate_callee (f := 63) rfl ?_); refine gs (some 230) Try.func63 #[.slice A1 l1.length c1] ?_; (with_reducible refine (spec_DrawLastMoves.calls kj55 _ _ l1 t534 t535 _ ?side1 ?side2 A89.out).mono ?_); (case side1 => exact qC (Kd.C_below HR1.out HB.out)); (case side2 => exact HC1.out); rintro e w95 ⟨v536, rfl, ho0, hb⟩; refine ⟨_, rfl, ?_⟩; have HO537 := Aside0.mk (Kd.R_lower ho0 (below_size (qD HB))); replace HB := uD HB hb; (try clear hb); (try clear hb2); (try clear hk); (try clear hi); (try clear ho0)) | ((with_reducible refine gate_dst (N := 28) rfl ?_); (try (refine gate_guard (by rfl) ?_; dsimp only)); refine box_event ?hg (N := 28) ?hd (cs := #[.int .i64 0, .slice none 0 0]) (t := 26) ?hr ?_; (case hd => rfl); (case hg => rfl); (case hr => first | (go_simp; done) | (go_simp; rfl)); intro gb538 hg w96 hbox hb; replace HO537 := uR HO537 hb; have BK538 := Aside0.mk (hbox); have GW538 := gE hg HB; have GE538 := gE hg HB; replace HB := uD HB hb; clear hb hbox hg; have hcz97_0 := cl BK538 0; have hcz97_1 := cl BK538 1; have hfz97_0 := blk_frozen BK538.out 0; have hfz97_1 := blk_frozen BK538.out 1; obtain ⟨Ao98, co98, eo98⟩ := Kd.R_slice HO537.out; subst eo98) | ((with_reducible refine gate_callee (f := 64) rfl ?_); refine gs (some 233) Try.func64 #[.agg #[.int .i64 t534, .slice Ao98 t535.length co98]] ?_; (with_reducible refine (impl_LastMoves.calls kj55 t534 _ _ t535 t539 t542 _ ?side1 ?side2 A90.out).mono ?_); (case side1 => refine (Kd.R_reads' (e := 3) (base := w.heap.size) (ok := fun k_ => True) (n := t535.length) (c := co98) ?_).2.2; exact (qFp (qF HO537 BK538))); (case side2 => exact (Kd.R_reads' HO537.out).2.1); rintro e w99 ⟨v540, rfl, ho0, hb⟩; refine ⟨_, rfl, ?_⟩; have n0_ := Aside0.mk (Kd.R_elder' (qFp (qF HO537 BK538)) (Kd.R_base ho0) hb); have n1_ := Aside0.mk (Kd.R_lower (Kd.R_new' ho0 (Kd.R_lt (qFp (qF HO537 BK538)))) (below_size (qD HB))); have n2_ := Aside0.mk (blk_below (g := gb538) (o := .cells #[.int .i64 t534, .slice Ao98 t535.length co98] 26 (0, 0)) (by (with_reducible repeat (first | refine blk_drewN ?_ _ | refine blk_drew ?_ | refine blk_alloc ?_ _)); refine blk_put (cs := #[.int .i64 t534, .slice none 0 0]) ?_ 1 _ rfl; (with_reducible repeat (first | refine blk_drewN ?_ _ | refine blk_drew ?_ | refine blk_alloc ?_ _)); refine blk_put (cs := #[.int .i64 0, .slice none 0 0]) ?_ 0 _ rfl; (with_reducible repeat (first | refine blk_drewN ?_ _ | refine blk_drew ?_ | refine blk_alloc ?_ _)); exact BK538.out) hb); have n3_ := uD HB hb; clear HO537; clear BK538; clear HB; have HO537 := n0_; have HO541 := n1_; have BK538 := n2_; have HB := n3_; clear n0_ n1_ n2_ n3_; (try clear hb); (try clear hb2); (try clear hk); (try clear hi); (try clear ho0); have hcz100_0 := cl BK538 0; have hcz100_1 := cl BK538 1; have hfz100_0 := blk_frozen BK538.out 0; have hfz100_1 := blk_frozen BK538.out 1) | ((with_reducible refine gate_callee (f := 65) rfl ?_); refine gs (some 238) Try.func65 #[.agg #[.int .i64 t534, .slice Ao98 t535.length co98]] ?_; (with_reducible refine (spec_LastMoves.calls kj55 t534 _ _ t535 t543 t546 _ ?side1 ?side2 A91.out).mono ?_); (case side1 => exact qC (Kd.R_reads' HO537.out).2.2); (case side2 => exact (Kd.R_reads' HO537.out).2.1); rintro e w101 ⟨v544, rfl, ho0, hb⟩; refine ⟨_, rfl, ?_⟩; have HO545 := Aside0.mk (Kd.R_lower (Kd.R_new' (Kd.R_new' ho0 (Kd.R_lt (qR HO537))) (Kd.R_lt (qR HO541))) (below_size (qD HB))); replace HO537 := eR HO537 ho0 hb; replace HO541 := eR HO541 ho0 hb; replace BK538 := uB BK538 hb; replace HB := uD HB hb; (try clear hb); (try clear hb2); (try clear hk); (try clear hi); (try clear ho0); have hcz102_0 := cl BK538 0; have hcz102_1 := cl BK538 1; have hfz102_0 := blk_frozen BK538.out 0; have hfz102_1 := blk_frozen BK538.out 1) | ((with_reducible refine gate_callee (f := 66) rfl ?_); refine gs (some 243) Try.func66 #[.agg #[.int .i64 t534, .slice Ao98 t535.length co98]] ?_; (with_reducible refine (impl_LastWins.calls kj55 t534 _ _ t535 t547 t548 _ ?side1 ?side2 A92.out).mono ?_); (case side1 => exact qC (Kd.R_reads' HO537.out).2.2); (case side2 => exact (Kd.R_reads' HO537.out).2.1); rintro e w103 ⟨rfl, hb⟩; refine ⟨_, rfl, ?_⟩; replace HO537 := uR HO537 hb; replace HO541 := uR HO541 hb; replace HO545 := uR HO545 hb; replace BK538 := uB BK538 hb; replace HB := uD HB hb; (try clear hb); (try clear hb2); (try clear hk); (try clear hi); have hcz104_0 := cl BK538 0; have hcz104_1 := cl BK538 1; have hfz104_0 := blk_frozen BK538.out 0; have hfz104_1 := blk_frozen BK538.out 1) | ((with_reducible refine gate_callee (f := 67) rfl ?_); refine gs (some 248) Try.func67 #[.agg #[.int .i64 t534, .slice Ao98 t535.length co98]] ?_; (with_reducible refine (spec_LastWins.calls kj55 t534 _ _ t535 t549 t550 _ ?side1 ?side2 A93.out).mono ?_); (case side1 => exact qC (Kd.R_reads' HO537.out).2.2); (case side2 => exact (Kd.R_reads' HO537.out).2.1); rintro e w105 ⟨rfl, hb⟩; refine ⟨_, rfl, ?_⟩; replace HO537 := uR HO537 hb; replace HO541 := uR HO541 hb; replace HO545 := uR HO545 hb; replace BK538 := uB BK538 hb; replace HB := uD HB hb; (try clear hb); (try clear hb2); (try clear hk); (try clear hi)))
    (try simp only [Act.put, List.setIfInBounds_toArray, List.set_cons_zero, List.set_cons_succ])
    go_cut [274] (fun v274 wc => ∃ (kq : Nat) (x274_93 : Bool), v274 = .bool x274_93 ∧ Aside0 (laws_FnPlacesAndLasts.j6 kq t539 t542 t547 x274_93 t534 t535 = some r) ∧ Aside0 (kq ≤ kj55) ∧ Aside0 (Kd.R (Kd.int .i64) 3 wc w.heap.size (fun k_ => some k_ ≠ ((.slice Ao98 t535.length co98) : Value).ownBlock) v540 t539) ∧ Aside0 (Kd.R (Kd.int .i64) 3 wc w.heap.size (fun k_ => some k_ ≠ (v540 : Value).ownBlock) (.slice Ao98 t535.length co98) t535) ∧ Aside0 (wc.heap[gb538]? = some (.cells #[.int .i64 t534, (.slice Ao98 t535.length co98)] 26 (0, 0))) ∧ Aside0 (Below w.heap.size w wc))
    case first =>
      have H := HC94.out
      clear HC94
      by_cases c106 : (t542 != t546) = true
      · rw [if_pos c106] at H
        exact absurd H (by simp)
      · rw [if_neg c106] at H
        have c106b0 : (t542 != t546) = false := by simpa using c106
        (try (have c106b1 : decide (t542 = t546) = true := by simpa using c106))
        (try (have c106b2 : (t542 == t546) = true := by simpa using c106))
        clear c106
        (first | rw [c106b0] | (simp only [i64_w, i32_w]; rw [c106b0]) | skip)
        replace H := Option.bind_eq_some_iff.mp H
        obtain ⟨t551, A1070, H⟩ := H
        replace H : (if t551 = true then (if (t548 != t550) = true then (none) else (if (t547 != t549) = true then (none) else (laws_FnPlacesAndLasts.j6 kj55 t539 t542 t547 (t548 != t542) t534 t535))) else (none)) = some r := H
        have A107 := Aside0.mk A1070
        clear A1070
        by_cases c108 : t551 = true
        · subst c108
          have H1 : (if (t548 != t550) = true then (none) else (if (t547 != t549) = true then (none) else (laws_FnPlacesAndLasts.j6 kj55 t539 t542 t547 (t548 != t542) t534 t535))) = some r := by rw [if_pos rfl] at H; exact H
          clear H
          have H := H1
          clear H1
          by_cases c109 : (t548 != t550) = true
          · rw [if_pos c109] at H
            exact absurd H (by simp)
          · rw [if_neg c109] at H
            have c109b0 : (t548 != t550) = false := by simpa using c109
            (try (have c109b1 : decide (t548 = t550) = true := by simpa using c109))
            (try (have c109b2 : (t548 == t550) = true := by simpa using c109))
            clear c109
            by_cases c112 : (t547 != t549) = true
            · rw [if_pos c112] at H
              exact absurd H (by simp)
            · rw [if_neg c112] at H
              have c112b0 : (t547 != t549) = false := by simpa using c112
              (try (have c112b1 : decide (t547 = t549) = true := by simpa using c112))
              (try (have c112b2 : (t547 == t549) = true := by simpa using c112))
              clear c112
              have H' := Aside0.mk H
              clear H
              obtain ⟨Ao115, co115, eo115⟩ := Kd.R_slice HO541.out
              subst eo115
              obtain ⟨Ao116, co116, eo116⟩ := Kd.R_slice HO545.out
              subst eo116
              go_wp2_with (first | (go_at_call 61; (with_reducible refine (laws_nSame.calls kj55 _ _ t539 _ _ t543 true _ ?side1 ?side2 ?side3 ?side4 A107.out).mono ?_); (case side1 => exact qC (Kd.R_reads' HO541.out).2.2); (case side2 => exact (Kd.R_reads' HO541.out).2.1); (case side3 => exact qC (Kd.R_reads' HO545.out).2.2); (case side4 => exact (Kd.R_reads' HO545.out).2.1); rintro e w' ⟨rfl, ⟨nd, rfl⟩⟩))
              go_meet
              case rel => exact ⟨_, ((t548 != t542)), (by first | rfl | (simp; done) | (simp [*]; done) | (simp [bne]; done)), H', ⟨by have := HJ11.out; have := HJ55.out; first | omega | exact Nat.le_refl _⟩, ⟨mR HO541 (fun _ hk => hk.1.2)⟩, ⟨mR HO537 (fun _ hk => hk.1.2)⟩, ⟨qB BK538⟩, ⟨qD HB⟩⟩
        · replace c108 := Bool.eq_false_iff.mpr c108
          subst c108
          have H1 : (none) = some r := by rw [if_neg (show ¬ (false = true) by decide)] at H; exact H
          exact absurd H1 (by simp)
    case rest =>
      clear HC94
      try clear c1
      try clear c2
      try clear p2
      try clear c3
      try clear c4
      try clear c5
      try clear p5
      try clear q5
      try clear hx5
      try clear c6
      try clear p6
      try clear c7
      try clear c8
      try clear c10
      try clear c11
      try clear c19
      try clear c19b0
      try clear c19b1
      try clear c19b2
      try clear c20
      try clear c20b0
      try clear c20b1
      try clear c20b2
      try clear c21
      try clear c21b0
      try clear c21b1
      try clear c21b2
      try clear c23
      try clear c24
      try clear c24b0
      try clear c24b1
      try clear c24b2
      try clear c28
      try clear c29
      try clear c29b0
      try clear c29b1
      try clear c29b2
      try clear c30
      try clear c34
      try clear c35
      try clear p52
      try clear q52
      try clear hx52
      try clear c54
      try clear c55
      try clear c56
      try clear c57
      try clear c58
      try clear c59
      try clear c59b0
      try clear c59b1
      try clear c60
      try clear c60b0
      try clear c60b1
      try clear c60b2
      try clear c61
      try clear c61b0
      try clear c61b1
      try clear c61b2
      try clear c62
      try clear c62b0
      try clear c63
      try clear c64
      try clear p64
      try clear c65
      try clear c66
      try clear c66b0
      try clear c67
      try clear c68
      try clear c69
      try clear c69b0
      try clear c71
      try clear c71b0
      try clear c72
      try clear c72b0
      try clear c73
      try clear c73b0
      try clear c75
      try clear c75b0
      try clear c75b1
      try clear c76
      try clear c76b0
      try clear c76b1
      try clear c77
      try clear c77b0
      try clear c78
      try clear c78b0
      try clear c78b1
      try clear c80
      try clear c81
      try clear c82
      try clear c82b0
      try clear c82b1
      try clear c84
      try clear c85
      try clear c87
      try clear c88
      try clear c106
      try clear c106b0
      try clear c106b1
      try clear c106b2
      try clear c108
      try clear c109
      try clear c109b0
      try clear c109b1
      try clear c109b2
      try clear c112
      try clear c112b0
      try clear c112b1
      try clear c112b2
      try clear hcz100_0
      try clear hcz100_1
      try clear hcz102_0
      try clear hcz102_1
      try clear hcz104_0
      try clear hcz104_1
      try clear hcz97_0
      try clear hcz97_1
      try clear hfz100_0
      try clear hfz100_1
      try clear hfz102_0
      try clear hfz102_1
      try clear hfz104_0
      try clear hfz104_1
      try clear hfz97_0
      try clear hfz97_1
      try clear hx527_0
      try clear p2
      try clear p5
      try clear p52
      try clear p527
      try clear p6
      try clear p64
      try clear q5
      try clear q52
      try clear q527
      obtain ⟨kq, x274_93, rfl, HA, HJ93, HO_29, HO_539001, BK538, HB⟩ := hcut
      rename_i K2_ hK2_ K1_ hK_
      exact hK_ _ _ (laws_FnPlacesAndLasts.tail16 nd HJ11 HJ55 HA HJ93 HO_29 HO_539001 BK538 HB hK2_)

end Go.Proofs.Ytlmlamkbedfmhaa.P
end
