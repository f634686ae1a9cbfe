-- Put together by wip/merge.py (a program of this session's) out of this claim's texts; Lean checks it.
import Derived.Test.YtcflhinogpcadaaDoorG22
import Derived.Test.YtcflhinogpcadaaDoorG23
import Derived.Test.YtcflhinogpcadaaDoorG26
import Derived.Test.YtcflhinogpcadaaDoorG24
import Derived.Test.YtcflhinogpcadaaDoorG25
section
namespace Go.Proofs.YtcflhinogpcadaaDoor.P
open Go.RowKit Go.Proofs.YtcflhinogpcadaaDoorW.PrintWords Go.Proofs.YtcflhinogpcadaaDoorW.PrintLast Go.Proofs.YtcflhinogpcadaaDoorW.PrintMore
attribute [local go_sem] max2_int min2_int max_two min_two max_three min_three max_four min_four   -- for this text's walks alone
set_option linter.unusedVariables false
set_option linter.unusedSimpArgs false

/-! ### impl_arePrizes: function 19 -/
def impl_arePrizes.f (a0 : ByteArray) (a1 : Int) : Option (Bool) := if (a0.size : Int) = a1 then ((strings_Trim.f a0 (⟨#[97, 98, 99, 100, 101, 102, 103, 104, 105, 106, 107, 108, 109, 110, 111, 112, 113, 114, 115, 116, 117, 118, 119, 120, 121, 122]⟩ : ByteArray)).bind fun t140 => (some (t140.toList == ([] : List UInt8)))) else (some false)
set_option maxHeartbeats 8000000 in
set_option maxRecDepth 100000 in
theorem impl_arePrizes.calls (a0 : ByteArray) (a1 : Int) (r : Bool) (w : World) (h : impl_arePrizes.f a0 a1 = some r) :
    Calls Tryd.prog 19 #[.string a0, .int .i64 a1] w fun e w' => e = .returned (.bool r) ∧ Below w.heap.size w w' := by
  have HB := Aside0.mk (Below.refl w.heap.size w)
  have H : (if (a0.size : Int) = a1 then ((strings_Trim.f a0 (⟨#[97, 98, 99, 100, 101, 102, 103, 104, 105, 106, 107, 108, 109, 110, 111, 112, 113, 114, 115, 116, 117, 118, 119, 120, 121, 122]⟩ : ByteArray)).bind fun t140 => (some (t140.toList == ([] : List UInt8)))) else (some false)) = some r := h
  clear h
  by_cases c3 : (a0.size : Int) = a1
  · rw [if_pos c3] at H
    have c3b0 : ((a0.size : Int) == a1) = true := beq_iff_eq.mpr c3
    have c3b1 : ((a0.size : Int) != a1) = false := bne_eq_false_iff_eq.mpr c3
    clear c3
    replace H := Option.bind_eq_some_iff.mp H
    obtain ⟨t140, A40, H⟩ := H
    replace H : (some (t140.toList == ([] : List UInt8))) = some r := H
    have A4 := Aside0.mk A40
    clear A40
    obtain rfl := Option.some.inj H
    go_enter Tryd.func19, Tryd.ntmps19
    go_wp2_with (first | (go_at_call 27; (with_reducible refine (strings_Trim.calls a0 (⟨#[97, 98, 99, 100, 101, 102, 103, 104, 105, 106, 107, 108, 109, 110, 111, 112, 113, 114, 115, 116, 117, 118, 119, 120, 121, 122]⟩ : ByteArray) t140 _ A4.out).mono ?_); rintro e w5 ⟨rfl, hb⟩; replace HB := uD HB hb; (try clear hb); (try clear hb2); (try clear hk); (try clear hi)))
    go_ret
    exact ⟨by first | rfl | (simp [errW_none, errW_some] <;> rfl) | (simp [*, errW_none, errW_some] <;> rfl), qD HB⟩
  · rw [if_neg c3] at H
    have c3b0 : ((a0.size : Int) == a1) = false := beq_eq_false_iff_ne.mpr c3
    have c3b1 : ((a0.size : Int) != a1) = true := bne_iff_ne.mpr c3
    obtain rfl := Option.some.inj H
    go_enter Tryd.func19, Tryd.ntmps19
    go_wp2
    go_ret
    exact ⟨by first | rfl | (simp [errW_none, errW_some] <;> rfl) | (simp [*, errW_none, errW_some] <;> rfl), qD HB⟩

end Go.Proofs.YtcflhinogpcadaaDoor.P
end
section
namespace Go.Proofs.YtcflhinogpcadaaDoor.P
open Go.RowKit Go.Proofs.YtcflhinogpcadaaDoorW.PrintWords Go.Proofs.YtcflhinogpcadaaDoorW.PrintLast Go.Proofs.YtcflhinogpcadaaDoorW.PrintMore
attribute [local go_sem] max2_int min2_int max_two min_two max_three min_three max_four min_four   -- for this text's walks alone
set_option linter.unusedVariables false
set_option linter.unusedSimpArgs false

/-! ### impl_StartsFor: function 7 -/
/-- What '[]byte(s)' gives, told for short texts. -/
def convBytes (s : ByteArray) : Option (List Int) := if s.size ≤ 1000 then some (bytesOf s) else none
theorem convBytes.foot (W : World) (e : TypeId) (s : ByteArray) (hs : s.size ≤ 9223372036854775807) : Kd.F (Kd.int .u8) (Lib.bytesWorld W e s) (fun k => k = W.heap.size) (some ⟨W.heap.size, 0, none⟩) (bytesOf s).length (bytesOf s) := by
  intro W' hW'
  have h0 := bytes_reads W e s hs
  have h1 : ReadsInt W' .u8 (some ⟨W.heap.size, 0, none⟩) s.size (bytesOf s) := ⟨h0.1, h0.2.1, fun hn => by
    obtain ⟨ad, e1, hc⟩ := h0.2.2 hn
    refine ⟨ad, e1, fun j hj => ?_⟩
    rw [← hc j hj]
    refine World.cell?_of_block (hW' _ ?_ ?_)
    · injection e1 with e1; subst e1; rw [add_plain]
    · injection e1 with e1; subst e1
      rw [add_plain, Lib.bytesWorld_size]; exact Nat.lt_succ_self _⟩
  have h2 := Kd.C_of_reads (d := (0 : Int)) (h1 := fun _ => rfl) h1
  rw [bytesOf_length]
  exact h2
theorem convBytes.wp {P : Program} {W : World} {ops : Array Oper} {rest : List Oper} {o : Oper} {a : Act} {Q : Exit → Act → World → Prop} (hg : o.guard = none) (src dst e : TypeId) (x : Operand) (hop : o.op = Op.convert src dst x)
    (s : ByteArray) (xs : List Int) (hxs : convBytes s = some xs) (hx : a.eval x = .string s) (hs : P.underlying src = some .string) (hd : P.underlying dst = some (.slice e)) (he : P.underlying e = some (.int .u8))
    (h : ∀ (g c : Nat) (w1 : World), W.heap.size ≤ g → g < w1.heap.size → Kd.V (Kd.int .u8) e w1 g (fun k => k = g) (.slice (some ⟨g, 0, none⟩) xs.length c) xs → Below W.heap.size W w1 → wpList P ops Q rest (a.put o.dst (.slice (some ⟨g, 0, none⟩) xs.length c)) w1) :
    wpList P ops Q (o :: rest) a W := by
  unfold convBytes at hxs
  by_cases c : s.size ≤ 1000
  · rw [if_pos c] at hxs
    obtain rfl := Option.some.inj hxs
    refine wpList_plain hg fun K' hK' => ?_
    unfold Oper.wp
    have hcap : s.size ≤ grownCap W s.size 0 e := by have := grownCap_ge W s.size 0 e; omega
    have hF := h W.heap.size (grownCap W s.size 0 e) (Lib.bytesWorld W e s) (Nat.le_refl _) (by rw [Lib.bytesWorld_size]; omega) (Kd.V_mk (by rw [bytesOf_length]; exact hcap) (convBytes.foot W e s (by omega))) (bytes_below (Below.refl _ _) (Nat.le_refl _) e s)
    rw [bytesOf_length] at hF
    simp [execOp, hop, hx, Lib.run_convert_string_bytes W src dst e s hs hd he, Result.andThen]
    exact hK' _ _ hF
  · rw [if_neg c] at hxs; exact absurd hxs (by simp)
mutual
def impl_StartsFor.j0 : Nat → ByteArray → ByteArray → Bool → Int → List Int → Option (List Int × Bool)
  | 0, _, _, _, _, _ => none
  | k + 1, x1, x2, x25, x180000, x180001 => if x25 = true then (some (([] : List Int), false)) else ((impl_prizesOf.f k x180000 x180001 x1).bind fun t186 => ((convBytes t186).bind fun t187 => (impl_StartsFor.l0 k x2 (([] : List Int)) t187 (t187.length : Int) 0)))
def impl_StartsFor.l0 : Nat → ByteArray → List Int → List Int → Int → Int → Option (List Int × Bool)
  | 0, _, _, _, _, _ => none
  | k + 1, x2, x8, x30, x31, x32 => if x32 < x31 then (if 0 ≤ x32 then (if x32 < (x30.length : Int) then (if 0 < (x2.size : Int) then (if (rd x30 x32) = (bt x2 0) then (if x8.length < 17592186044416 then (impl_StartsFor.l0 k x2 (x8 ++ [x32]) x30 x31 (wrap64 (x32 + 1))) else (none)) else (impl_StartsFor.l0 k x2 x8 x30 x31 (wrap64 (x32 + 1)))) else (none)) else (none)) else (none)) else (some (x8, true))
end
def impl_StartsFor.f (k : Nat) (a0_0 : Int) (l0_1 : List Int) (a1 : ByteArray) (a2 : ByteArray) : Option (List Int × Bool) := (impl_isLadder.f a0_0 l0_1).bind fun t180 => (if t180 = true then ((impl_arePrizes.f a1 a0_0).bind fun t181 => (if t181 = true then ((impl_arePrizes.f a2 1).bind fun t182 => (impl_StartsFor.j0 k a1 a2 (!t182) a0_0 l0_1)) else (impl_StartsFor.j0 k a1 a2 true a0_0 l0_1))) else (impl_StartsFor.j0 k a1 a2 true a0_0 l0_1))
set_option maxHeartbeats 8000000 in
set_option maxRecDepth 100000 in
theorem impl_StartsFor.calls (k : Nat) (a0_0 : Int) (A0_1 : Option Addr) (c0_1 : Nat) (l0_1 : List Int) (a1 : ByteArray) (a2 : ByteArray) (r1 : List Int) (r2 : Bool) (w : World) (hr0_1 : Kd.C (Kd.int .i64) w A0_1 l0_1.length l0_1) (hc0_1 : l0_1.length ≤ c0_1) (h : impl_StartsFor.f k a0_0 l0_1 a1 a2 = some (r1, r2)) :
    Calls Tryd.prog 7 #[.agg #[.int .i64 a0_0, .slice A0_1 l0_1.length c0_1], .string a1, .string a2] w fun e w' => ∃ v0_ : Value, e = .returned (.tuple #[v0_, .bool r2]) ∧ Kd.R (Kd.int .i64) 3 w' w.heap.size (fun _ => True) v0_ r1 ∧ Below w.heap.size w w' := by
  have hu28 := Tryd.underlying28
  have HR0_1 := Aside0.mk hr0_1
  have HC0_1 := Aside0.mk hc0_1
  clear hr0_1 hc0_1
  have HB := Aside0.mk (Below.refl w.heap.size w)
  have H : ((impl_isLadder.f a0_0 l0_1).bind fun t180 => (if t180 = true then ((impl_arePrizes.f a1 a0_0).bind fun t181 => (if t181 = true then ((impl_arePrizes.f a2 1).bind fun t182 => (impl_StartsFor.j0 k a1 a2 (!t182) a0_0 l0_1)) else (impl_StartsFor.j0 k a1 a2 true a0_0 l0_1))) else (impl_StartsFor.j0 k a1 a2 true a0_0 l0_1))) = some (r1, r2) := h
  clear h
  have HC4 := Aside0.mk H
  clear H
  go_enter Tryd.func7, Tryd.ntmps7
  go_upto_region 1 with (first | ((with_reducible refine gate_dst (N := 3) rfl ?_); refine bx 3 #[.int .i64 a0_0, .slice A0_1 l0_1.length c0_1] 28 ?_; intro gb179 hg w5 hbox hb; have BK179 := Aside0.mk (hbox); have GW179 := gE hg HB; have GE179 := gE hg HB; replace HB := uD HB hb; clear hb hbox hg))
  (try simp only [Act.put, List.setIfInBounds_toArray, List.set_cons_zero, List.set_cons_succ])
  go_cut [25] (fun v25 wc => ∃ (kq : Nat) (x25_3 : Bool), v25 = .bool x25_3 ∧ Aside0 (impl_StartsFor.j0 kq a1 a2 x25_3 a0_0 l0_1 = some (r1, r2)) ∧ Aside0 (kq ≤ k) ∧ Aside0 (wc.heap[gb179]? = some (.cells #[.int .i64 a0_0, (.slice A0_1 l0_1.length c0_1)] 28 (0, 0))) ∧ Aside0 (Below w.heap.size w wc))
  case first =>
    have H := HC4.out
    clear HC4
    replace H := Option.bind_eq_some_iff.mp H
    obtain ⟨t180, A60, H⟩ := H
    replace H : (if t180 = true then ((impl_arePrizes.f a1 a0_0).bind fun t181 => (if t181 = true then ((impl_arePrizes.f a2 1).bind fun t182 => (impl_StartsFor.j0 k a1 a2 (!t182) a0_0 l0_1)) else (impl_StartsFor.j0 k a1 a2 true a0_0 l0_1))) else (impl_StartsFor.j0 k a1 a2 true a0_0 l0_1)) = some (r1, r2) := H
    have A6 := Aside0.mk A60
    clear A60
    by_cases c7 : t180 = true
    · subst c7
      have H1 : ((impl_arePrizes.f a1 a0_0).bind fun t181 => (if t181 = true then ((impl_arePrizes.f a2 1).bind fun t182 => (impl_StartsFor.j0 k a1 a2 (!t182) a0_0 l0_1)) else (impl_StartsFor.j0 k a1 a2 true a0_0 l0_1))) = some (r1, r2) := by rw [if_pos rfl] at H; exact H
      clear H
      have H := H1
      clear H1
      replace H := Option.bind_eq_some_iff.mp H
      obtain ⟨t181, A80, H⟩ := H
      replace H : (if t181 = true then ((impl_arePrizes.f a2 1).bind fun t182 => (impl_StartsFor.j0 k a1 a2 (!t182) a0_0 l0_1)) else (impl_StartsFor.j0 k a1 a2 true a0_0 l0_1)) = some (r1, r2) := H
      have A8 := Aside0.mk A80
      clear A80
      by_cases c9 : t181 = true
      · subst c9
        have H1 : ((impl_arePrizes.f a2 1).bind fun t182 => (impl_StartsFor.j0 k a1 a2 (!t182) a0_0 l0_1)) = some (r1, r2) := by rw [if_pos rfl] at H; exact H
        clear H
        have H := H1
        clear H1
        replace H := Option.bind_eq_some_iff.mp H
        obtain ⟨t182, A100, H⟩ := H
        replace H : (impl_StartsFor.j0 k a1 a2 (!t182) a0_0 l0_1) = some (r1, r2) := H
        have A10 := Aside0.mk A100
        clear A100
        have H' := Aside0.mk H
        clear H
        have hcz11_0 := cl BK179 0
        have hcz11_1 := cl BK179 1
        have hfz11_0 := blk_frozen BK179.out 0
        have hfz11_1 := blk_frozen BK179.out 1
        go_wp2_with (first | ((with_reducible refine gate_callee (f := 18) rfl ?_); refine gs (some 12) Tryd.func18 #[.agg #[.int .i64 a0_0, .slice A0_1 l0_1.length c0_1]] ?_; (with_reducible refine (impl_isLadder.calls a0_0 _ _ l0_1 true _ ?side1 ?side2 A6.out).mono ?_); (case side1 => exact qC (Kd.C_below HR0_1.out HB.out)); (case side2 => exact HC0_1.out); rintro e w12 ⟨rfl, hb⟩; refine ⟨_, rfl, ?_⟩; replace BK179 := uB BK179 hb; replace HB := uD HB hb; (try clear hb); (try clear hb2); (try clear hk); (try clear hi); have hcz13_0 := cl BK179 0; have hcz13_1 := cl BK179 1; have hfz13_0 := blk_frozen BK179.out 0; have hfz13_1 := blk_frozen BK179.out 1) | (go_at_call 19; (with_reducible refine (impl_arePrizes.calls a1 a0_0 true _ A8.out).mono ?_); rintro e w14 ⟨rfl, hb⟩; replace BK179 := uB BK179 hb; replace HB := uD HB hb; (try clear hb); (try clear hb2); (try clear hk); (try clear hi)) | (go_at_call 19; (with_reducible refine (impl_arePrizes.calls a2 1 t182 _ A10.out).mono ?_); rintro e w15 ⟨rfl, hb⟩; replace BK179 := uB BK179 hb; replace HB := uD HB hb; (try clear hb); (try clear hb2); (try clear hk); (try clear hi)))
        go_meet
        case rel => exact ⟨_, (!t182), (by first | rfl | (simp; done) | (simp [*]; done) | (simp [bne]; done)), H', ⟨by first | omega | exact Nat.le_refl _⟩, ⟨qB BK179⟩, ⟨qD HB⟩⟩
      · replace c9 := Bool.eq_false_iff.mpr c9
        subst c9
        have H1 : (impl_StartsFor.j0 k a1 a2 true a0_0 l0_1) = some (r1, r2) := by rw [if_neg (show ¬ (false = true) by decide)] at H; exact H
        clear H
        have H := H1
        clear H1
        have H' := Aside0.mk H
        clear H
        have hcz16_0 := cl BK179 0
        have hcz16_1 := cl BK179 1
        have hfz16_0 := blk_frozen BK179.out 0
        have hfz16_1 := blk_frozen BK179.out 1
        go_wp2_with (first | ((with_reducible refine gate_callee (f := 18) rfl ?_); refine gs (some 12) Tryd.func18 #[.agg #[.int .i64 a0_0, .slice A0_1 l0_1.length c0_1]] ?_; (with_reducible refine (impl_isLadder.calls a0_0 _ _ l0_1 true _ ?side1 ?side2 A6.out).mono ?_); (case side1 => exact qC (Kd.C_below HR0_1.out HB.out)); (case side2 => exact HC0_1.out); rintro e w17 ⟨rfl, hb⟩; refine ⟨_, rfl, ?_⟩; replace BK179 := uB BK179 hb; replace HB := uD HB hb; (try clear hb); (try clear hb2); (try clear hk); (try clear hi); have hcz18_0 := cl BK179 0; have hcz18_1 := cl BK179 1; have hfz18_0 := blk_frozen BK179.out 0; have hfz18_1 := blk_frozen BK179.out 1) | (go_at_call 19; (with_reducible refine (impl_arePrizes.calls a1 a0_0 false _ A8.out).mono ?_); rintro e w19 ⟨rfl, hb⟩; replace BK179 := uB BK179 hb; replace HB := uD HB hb; (try clear hb); (try clear hb2); (try clear hk); (try clear hi)))
        go_meet
        case rel => exact ⟨_, (true), (by first | rfl | (simp; done) | (simp [*]; done) | (simp [bne]; done)), H', ⟨by first | omega | exact Nat.le_refl _⟩, ⟨qB BK179⟩, ⟨qD HB⟩⟩
    · replace c7 := Bool.eq_false_iff.mpr c7
      subst c7
      have H1 : (impl_StartsFor.j0 k a1 a2 true a0_0 l0_1) = some (r1, r2) := by rw [if_neg (show ¬ (false = true) by decide)] at H; exact H
      clear H
      have H := H1
      clear H1
      have H' := Aside0.mk H
      clear H
      have hcz20_0 := cl BK179 0
      have hcz20_1 := cl BK179 1
      have hfz20_0 := blk_frozen BK179.out 0
      have hfz20_1 := blk_frozen BK179.out 1
      go_wp2_with (first | ((with_reducible refine gate_callee (f := 18) rfl ?_); refine gs (some 12) Tryd.func18 #[.agg #[.int .i64 a0_0, .slice A0_1 l0_1.length c0_1]] ?_; (with_reducible refine (impl_isLadder.calls a0_0 _ _ l0_1 false _ ?side1 ?side2 A6.out).mono ?_); (case side1 => exact qC (Kd.C_below HR0_1.out HB.out)); (case side2 => exact HC0_1.out); rintro e w21 ⟨rfl, hb⟩; refine ⟨_, rfl, ?_⟩; replace BK179 := uB BK179 hb; replace HB := uD HB hb; (try clear hb); (try clear hb2); (try clear hk); (try clear hi)))
      go_meet
      case rel => exact ⟨_, (true), (by first | rfl | (simp; done) | (simp [*]; done) | (simp [bne]; done)), H', ⟨by first | omega | exact Nat.le_refl _⟩, ⟨qB BK179⟩, ⟨qD HB⟩⟩
  case rest =>
    clear HC4
    try clear c1
    try clear p2
    try clear c7
    try clear c9
    try clear c18
    try clear hcz11_0
    try clear hcz11_1
    try clear hcz13_0
    try clear hcz13_1
    try clear hcz16_0
    try clear hcz16_1
    try clear hcz18_0
    try clear hcz18_1
    try clear hcz20_0
    try clear hcz20_1
    try clear hfz11_0
    try clear hfz11_1
    try clear hfz13_0
    try clear hfz13_1
    try clear hfz16_0
    try clear hfz16_1
    try clear hfz18_0
    try clear hfz18_1
    try clear hfz20_0
    try clear hfz20_1
    obtain ⟨kq, x25_3, rfl, HA, HJ3, BK179, HB⟩ := hcut
    cases kq with
    | zero => exact absurd HA.out (by simp [impl_StartsFor.j0])
    | succ kj3 =>
      have H := HA.out
      clear HA
      simp only [impl_StartsFor.j0] at H
      by_cases c22 : x25_3 = true
      · subst c22
        have H1 : (some (([] : List Int), false)) = some (r1, r2) := by rw [if_pos rfl] at H; exact H
        clear H
        have H := H1
        clear H1
        simp only [Option.some.injEq, Prod.mk.injEq] at H
        obtain ⟨rfl, rfl⟩ := H
        go_wp2
        go_ret2
        exact ⟨_, by first | rfl | (simp [errW_none, errW_some] <;> rfl) | (simp [*, errW_none, errW_some] <;> rfl), by first | exact Kd.R_nil _ _ _ _ _ | exact Kd.N_nil _ _ _ _ _ | exact Kd.V_nil _ _ _ _ _ | exact Kd.Q_nil _ _ _ _ _ | exact Kd.S_nil _ _ _ _ _, qD HB⟩
      · replace c22 := Bool.eq_false_iff.mpr c22
        subst c22
        have H1 : ((impl_prizesOf.f kj3 a0_0 l0_1 a1).bind fun t186 => ((convBytes t186).bind fun t187 => (impl_StartsFor.l0 kj3 a2 (([] : List Int)) t187 (t187.length : Int) 0))) = some (r1, r2) := by rw [if_neg (show ¬ (false = true) by decide)] at H; exact H
        clear H
        have H := H1
        clear H1
        obtain ⟨y183, hy183⟩ : ∃ y_ : List Int, y_ = (([] : List Int)) := ⟨_, rfl⟩
        replace H : ((impl_prizesOf.f kj3 a0_0 l0_1 a1).bind fun t186 => ((convBytes t186).bind fun t187 => (impl_StartsFor.l0 kj3 a2 y183 t187 (t187.length : Int) 0))) = some (r1, r2) := by first | (rw [hy183]; with_reducible exact H) | (have H2_ := (Option.bind_some _ _).symm.trans H; rw [hy183]; with_reducible exact H2_) | (have H2_ := (Option.bind_some _ _).symm.trans H; with_reducible exact H2_) | with_reducible exact H | (rw [hy183]; exact H) | exact H
        have Ny183 := Aside0.mk hy183
        clear hy183
        replace H := Option.bind_eq_some_iff.mp H
        obtain ⟨t186, A230, H⟩ := H
        replace H : ((convBytes t186).bind fun t187 => (impl_StartsFor.l0 kj3 a2 y183 t187 (t187.length : Int) 0)) = some (r1, r2) := H
        have A23 := Aside0.mk A230
        clear A230
        replace H := Option.bind_eq_some_iff.mp H
        obtain ⟨t187, A240, H⟩ := H
        replace H : (impl_StartsFor.l0 kj3 a2 y183 t187 (t187.length : Int) 0) = some (r1, r2) := H
        have A24 := Aside0.mk A240
        clear A240
        have H' := Aside0.mk H
        clear H
        go_wp2_with (first | ((with_reducible refine gate_dst (N := 26) rfl ?_); refine Kd.R_lit (Kd.int .i64) _ 3 ?hg (N := 26) ?hd (xs := ([] : List Int)) (inner := []) (ok := fun _ => True) (okp := fun _ => True) ?hr ?hp (fun _ hk => hk) trivial (Below.refl _ _) (Nat.le_refl _) (by simp) ?_; (case hd => rfl); (case hg => rfl); (case hr => first | (go_simp; done) | (go_simp; rfl)); (case hp => exact (Reps.none _ _)); intro v184 w25 ho26 hb hg_ hnew_; clear hg_ hnew_; (first | rw [← Ny183.out] at ho26 | (simp only [Int.reduceToNat] at ho26; rw [← Ny183.out] at ho26)); have HO185 := Aside0.mk (Kd.R_lower ho26 (below_size (qD HB))); replace BK179 := uB BK179 hb; replace HB := uD HB hb; clear hb ho26; have hcz27_0 := cl BK179 0; have hcz27_1 := cl BK179 1; have hfz27_0 := blk_frozen BK179.out 0; have hfz27_1 := blk_frozen BK179.out 1) | ((with_reducible refine gate_callee (f := 20) rfl ?_); refine gs (some 29) Tryd.func20 #[.agg #[.int .i64 a0_0, .slice A0_1 l0_1.length c0_1], .string a1] ?_; (with_reducible refine (impl_prizesOf.calls kj3 a0_0 _ _ l0_1 a1 t186 _ ?side1 ?side2 A23.out).mono ?_); (case side1 => exact qC (Kd.C_below HR0_1.out HB.out)); (case side2 => exact HC0_1.out); rintro e w28 ⟨rfl, hb⟩; refine ⟨_, rfl, ?_⟩; replace HO185 := uR HO185 hb; replace BK179 := uB BK179 hb; replace HB := uD HB hb; (try clear hb); (try clear hb2); (try clear hk); (try clear hi)) | ((with_reducible refine gate_dst (N := 30) rfl ?_); refine convBytes.wp rfl 9 39 5 _ rfl t186 t187 A24.out rfl Tryd.underlying9 Tryd.underlying39 Tryd.underlying5 ?_; intro gc co30 w29 hge hlt hv30 hb; replace HO185 := Aside0.mk (Kd.R_mono (ok' := fun k_ => k_ ≠ gc) (Kd.R_old (qR HO185) hb) (fun k_ hk => Nat.ne_of_lt (Nat.lt_of_lt_of_le hk.2 hge))); have HO189 := Aside0.mk hv30; have GL_ := Aside0.mk hlt; replace BK179 := uB BK179 hb; replace HB := uD HB hb; clear hb hv30 hlt hge))
        go_loopg [8, 32] kj3 (fun kq v8 v32 w' => ∃ (x8_2 : List Int) (x32_2 : Int), v32 = .int .i64 x32_2 ∧ Aside0 (impl_StartsFor.l0 kq a2 x8_2 t187 (t187.length : Int) x32_2 = some (r1, r2)) ∧ Aside0 (kq ≤ kj3) ∧ Aside0 (Kd.R (Kd.int .i64) 3 w' w.heap.size (fun k_ => k_ ≠ gc) v8 x8_2) ∧ Aside0 (Kd.V (Kd.int .u8) 5 w' gc (fun k_ => k_ = gc) (.slice (some ⟨gc, 0, none⟩) t187.length co30) t187) ∧ Aside0 (gc < w'.heap.size) ∧ Aside0 (w'.heap[gb179]? = some (.cells #[.int .i64 a0_0, (.slice A0_1 l0_1.length c0_1)] 28 (0, 0))) ∧ Aside0 (Below w.heap.size w w'))
        case atStart => exact ⟨(y183), (0), (by first | rfl | (simp; done) | (simp [*]; done) | (simp [bne]; done)), H', ⟨Nat.le_refl _⟩, ⟨qR HO185⟩, ⟨qV HO189⟩, ⟨GL_.out⟩, ⟨qB BK179⟩, ⟨qD HB⟩⟩
        case round =>
          clear H'
          try clear c1
          try clear c2
          try clear p2
          try clear c4
          try clear c7
          try clear c9
          try clear c18
          try clear c20
          try clear c22
          try clear hcz11_0
          try clear hcz11_1
          try clear hcz13_0
          try clear hcz13_1
          try clear hcz16_0
          try clear hcz16_1
          try clear hcz18_0
          try clear hcz18_1
          try clear hcz20_0
          try clear hcz20_1
          try clear hcz27_0
          try clear hcz27_1
          try clear hfz11_0
          try clear hfz11_1
          try clear hfz13_0
          try clear hfz13_1
          try clear hfz16_0
          try clear hfz16_1
          try clear hfz18_0
          try clear hfz18_1
          try clear hfz20_0
          try clear hfz20_1
          try clear hfz27_0
          try clear hfz27_1
          try clear p2
          obtain ⟨x8_2, x32_2, rfl, HA, HK2, HO_8, HO_30, GL_, BK179, HB⟩ := hrel
          cases gk with
          | zero => exact absurd HA.out (by simp [impl_StartsFor.l0])
          | succ k2 =>
            have H := HA.out
            clear HA
            simp only [impl_StartsFor.l0] at H
            by_cases c31 : x32_2 < (t187.length : Int)
            · rw [if_pos c31] at H
              have c31b0 : decide (x32_2 < (t187.length : Int)) = true := decide_eq_true c31
              clear c31
              by_cases c32 : 0 ≤ x32_2
              · rw [if_pos c32] at H
                have c32b0 : decide (0 ≤ x32_2) = true := decide_eq_true c32
                clear c32
                by_cases c33 : x32_2 < (t187.length : Int)
                · rw [if_pos c33] at H
                  have c33b0 : decide (x32_2 < (t187.length : Int)) = true := decide_eq_true c33
                  clear c33
                  by_cases c34 : 0 < (a2.size : Int)
                  · rw [if_pos c34] at H
                    have c34b0 : decide (0 < (a2.size : Int)) = true := decide_eq_true c34
                    have c34b1 : decide (0 < a2.size) = true := decide_eq_true (by omega)
                    clear c34
                    by_cases c36 : (rd t187 x32_2) = (bt a2 0)
                    · rw [if_pos c36] at H
                      have c36b0 : ((rd t187 x32_2) == (bt a2 0)) = true := beq_iff_eq.mpr c36
                      have c36b1 : ((rd t187 x32_2) != (bt a2 0)) = false := bne_eq_false_iff_eq.mpr c36
                      clear c36
                      by_cases c37 : x8_2.length < 17592186044416
                      · rw [if_pos c37] at H
                        have LMc37 := Aside0.mk c37
                        clear c37
                        obtain ⟨y191, hy191⟩ : ∃ y_ : List Int, y_ = (x8_2 ++ [x32_2]) := ⟨_, rfl⟩
                        replace H : (impl_StartsFor.l0 k2 a2 y191 t187 (t187.length : Int) (wrap64 (x32_2 + 1))) = some (r1, r2) := by first | (rw [hy191]; with_reducible exact H) | (have H2_ := (Option.bind_some _ _).symm.trans H; rw [hy191]; with_reducible exact H2_) | (have H2_ := (Option.bind_some _ _).symm.trans H; with_reducible exact H2_) | with_reducible exact H | (rw [hy191]; exact H) | exact H
                        have Ny191 := Aside0.mk hy191
                        clear hy191
                        have H' := Aside0.mk H
                        clear H
                        have p190 : 0 ≤ (x32_2 : Int) := of_decide_eq_true (by first | (with_reducible assumption) | assumption)
                        have q190 : x32_2 < (t187.length : Int) := of_decide_eq_true (by first | (with_reducible assumption) | assumption)
                        obtain ⟨ad190, e190, hx190_0⟩ := Kd.at_int (Kd.V_reads' HO_30.out).2.2 x32_2 p190 q190
                        cases e190
                        (first | simp only [add_plain] at hx190_0 | simp only [add_at] at hx190_0 | simp only [Addr.add, Nat.zero_add] at hx190_0 | skip)
                        replace p190 := eq_true p190
                        replace q190 := eq_true q190
                        have p35 : 0 ≤ (0 : Int) := (by omega)
                        have q35 : 0 < a2.size := (by have : (0 : Int) < (a2.size : Int) := of_decide_eq_true (by first | (with_reducible assumption) | assumption); omega)
                        have hx35 : ∀ h : 0 < a2.size, ((a2[0]'h).toNat : Int) = bt a2 0 := bt_at a2 0
                        clear p35
                        have qi35 : (0 < (a2.size : Int)) = True := eq_true (of_decide_eq_true (by first | (with_reducible assumption) | assumption))
                        replace q35 := eq_true q35
                        go_wp2_with (first | ((with_reducible refine gate_builtin (b := .append) (xs := #[.tmp 41, .tmp 43]) rfl ?_); at_builtin; refine Kd.R_append (Kd.int .i64) (w0 := w) w.heap.size rfl (.tmp 41) (.tmp 43) 22 3 (.int .i64 0) 8 rfl Tryd.underlying22 info3 rfl (by decide) (by omega) u8 x8_2 x32_2 [.int .i64 x32_2] (fun k_ => k_ ≠ gc) (fun _ => False) rfl rfl ?aP (fun _ hk => hk.elim) ?aF ?aO ?aB ?aS ?aL ?_; (case aP => exact rfl); (case aB => exact (qD HB)); (case aF => exact (fun k_ hk => Nat.ne_of_gt (Nat.lt_of_lt_of_le GL_.out hk))); (case aO => exact (qR HO_8)); (case aS => exact (below_size (qD HB))); (case aL => have := LMc37.out; omega); intro v192 w38 ho hb hg hat; rw [← Ny191.out] at ho; replace HO_30 := Aside0.mk (Kd.V_grown (qV HO_30) hg (fun k_ hk e_ => HO_8.out.1 k_ e_.symm hk)); replace GL_ := Aside0.mk (Nat.lt_of_lt_of_le GL_.out hg.size); replace BK179 := Aside0.mk (blk_grown (g := gb179) (o := .cells #[.int .i64 a0_0, .slice A0_1 l0_1.length c0_1] 28 (0, 0)) (qB BK179) hg (Kd.R_ne HO_8.out BK179.out (by decide))); replace HB := Aside0.mk (hb); have HO193 := Aside0.mk (ho); clear HO_8; clear ho hb hg hat))
                        go_roundg k2
                        case measure => have := HJ3.out; have := HK2.out; omega
                        case rel => exact ⟨(y191), (wrap64 (x32_2 + 1)), (by first | rfl | (simp; done) | (simp [*]; done) | (simp [bne]; done)), H', ⟨by have := HJ3.out; have := HK2.out; omega⟩, ⟨qR HO193⟩, ⟨qV HO_30⟩, ⟨GL_.out⟩, ⟨qB BK179⟩, ⟨qD HB⟩⟩
                      · rw [if_neg c37] at H
                        exact absurd H (by simp)
                    · rw [if_neg c36] at H
                      have c36b0 : ((rd t187 x32_2) == (bt a2 0)) = false := beq_eq_false_iff_ne.mpr c36
                      have c36b1 : ((rd t187 x32_2) != (bt a2 0)) = true := bne_iff_ne.mpr c36
                      have H' := Aside0.mk H
                      clear H
                      have p190 : 0 ≤ (x32_2 : Int) := of_decide_eq_true (by first | (with_reducible assumption) | assumption)
                      have q190 : x32_2 < (t187.length : Int) := of_decide_eq_true (by first | (with_reducible assumption) | assumption)
                      obtain ⟨ad190, e190, hx190_0⟩ := Kd.at_int (Kd.V_reads' HO_30.out).2.2 x32_2 p190 q190
                      cases e190
                      (first | simp only [add_plain] at hx190_0 | simp only [add_at] at hx190_0 | simp only [Addr.add, Nat.zero_add] at hx190_0 | skip)
                      replace p190 := eq_true p190
                      replace q190 := eq_true q190
                      have p35 : 0 ≤ (0 : Int) := (by omega)
                      have q35 : 0 < a2.size := (by have : (0 : Int) < (a2.size : Int) := of_decide_eq_true (by first | (with_reducible assumption) | assumption); omega)
                      have hx35 : ∀ h : 0 < a2.size, ((a2[0]'h).toNat : Int) = bt a2 0 := bt_at a2 0
                      clear p35
                      have qi35 : (0 < (a2.size : Int)) = True := eq_true (of_decide_eq_true (by first | (with_reducible assumption) | assumption))
                      replace q35 := eq_true q35
                      go_wp2
                      go_roundg k2
                      case measure => have := HJ3.out; have := HK2.out; omega
                      case rel => exact ⟨(x8_2), (wrap64 (x32_2 + 1)), (by first | rfl | (simp; done) | (simp [*]; done) | (simp [bne]; done)), H', ⟨by have := HJ3.out; have := HK2.out; omega⟩, ⟨qR HO_8⟩, ⟨qV HO_30⟩, ⟨GL_.out⟩, ⟨qB BK179⟩, ⟨qD HB⟩⟩
                  · rw [if_neg c34] at H
                    exact absurd H (by simp)
                · rw [if_neg c33] at H
                  exact absurd H (by simp)
              · rw [if_neg c32] at H
                exact absurd H (by simp)
            · rw [if_neg c31] at H
              have c31b0 : decide (x32_2 < (t187.length : Int)) = false := decide_eq_false c31
              clear c31
              simp only [Option.some.injEq, Prod.mk.injEq] at H
              obtain ⟨rfl, rfl⟩ := H
              go_wp2
              go_ret2
              exact ⟨_, by first | rfl | (simp [errW_none, errW_some] <;> rfl) | (simp [*, errW_none, errW_some] <;> rfl), Kd.R_mono (qR HO_8) (fun _ _ => trivial), qD HB⟩


end Go.Proofs.YtcflhinogpcadaaDoor.P
end
section
namespace Go.Proofs.YtcflhinogpcadaaDoor.P
open Go.RowKit Go.Proofs.YtcflhinogpcadaaDoorW.PrintWords Go.Proofs.YtcflhinogpcadaaDoorW.PrintLast Go.Proofs.YtcflhinogpcadaaDoorW.PrintMore
attribute [local go_sem] max2_int min2_int max_two min_two max_three min_three max_four min_four   -- for this text's walks alone
set_option linter.unusedVariables false
set_option linter.unusedSimpArgs false

/-! ### laws_FnExactStartsFor: function 3 -/
mutual
def laws_FnExactStartsFor.j0 : Nat → ByteArray → ByteArray → List Int → Bool → List Int → Bool → Bool → Int → List Int → Int → List Int → Option (Bool)
  | 0, _, _, _, _, _, _, _, _, _, _, _ => none
  | k + 1, x1, x2, x8, x9, x11, x12, x54, x182000, x182001, x196000, x196001 => if x54 = true then (none) else ((laws_toLadder.f k x182000 x182001).bind fun bt201 => ((laws_eqLadder.f k x196000 x196001 bt201.1 bt201.2).bind fun t205 => (if t205 = true then ((laws_markLadder.f k x196000 x196001 1).bind fun bt206 => (if bt206.1 < 0 then (none) else ((laws_eqIntS.f k x11 x8).bind fun t208 => (if t208 = true then (laws_FnExactStartsFor.j1 k x1 x2 x8 x9 x11 (x12 != x9) x182000 x182001) else (none))))) else (none))))
def laws_FnExactStartsFor.j1 : Nat → ByteArray → ByteArray → List Int → Bool → List Int → Bool → Int → List Int → Option (Bool)
  | 0, _, _, _, _, _, _, _, _ => none
  | k + 1, x1, x2, x8, x9, x11, x75, x182000, x182001 => if x75 = true then (none) else ((laws_markIntS.f k x11 1).bind fun bt209 => ((laws_heldIntS.f k bt209.2 1).bind fun t211 => (if t211 < 0 then (none) else (if t211 = bt209.1 then ((laws_toLadder.f k x182000 x182001).bind fun bt212 => ((impl_StartsFor.f k bt212.1 bt212.2 x1 x2).bind fun bt216 => ((laws_eqIntS.f k bt216.1 x8).bind fun t220 => (if t220 = true then (laws_FnExactStartsFor.j2 k bt209.2 bt209.1 (bt216.2 != x9)) else (none))))) else (none)))))
def laws_FnExactStartsFor.j2 : Nat → List Int → Int → Bool → Option (Bool)
  | 0, _, _, _ => none
  | k + 1, x11, x14, x103 => if x103 = true then (none) else ((laws_heldIntS.f k x11 1).bind fun t221 => (if t221 < 0 then (none) else (if t221 = x14 then (some true) else (none))))
end
def laws_FnExactStartsFor.f (k : Nat) (a0_0 : Int) (l0_1 : List Int) (a1 : ByteArray) (a2 : ByteArray) : Option (Bool) := if (a1.size : Int) > 1048576 then (some true) else (if (a2.size : Int) > 1048576 then (some true) else ((laws_szLadder.f a0_0 l0_1 1048576).bind fun t182 => (if t182 < 0 then (some true) else ((laws_toLadder.f k a0_0 l0_1).bind fun bt183 => ((spec_StartsFor.f k bt183.1 bt183.2 a1 a2).bind fun bt187 => ((laws_toLadder.f k a0_0 l0_1).bind fun bt191 => ((impl_StartsFor.f k bt191.1 bt191.2 a1 a2).bind fun bt196 => ((laws_eqIntS.f k bt196.1 bt187.1).bind fun t200 => (if t200 = true then (laws_FnExactStartsFor.j0 k a1 a2 bt187.1 bt187.2 bt196.1 bt196.2 (bt196.2 != bt187.2) a0_0 l0_1 bt191.1 bt191.2) else (none))))))))))
set_option maxHeartbeats 8000000 in
set_option maxRecDepth 100000 in
theorem laws_FnExactStartsFor.calls (k : Nat) (a0_0 : Int) (A0_1 : Option Addr) (c0_1 : Nat) (l0_1 : List Int) (a1 : ByteArray) (a2 : ByteArray) (r : Bool) (w : World) (hr0_1 : Kd.C (Kd.int .i64) w A0_1 l0_1.length l0_1) (hc0_1 : l0_1.length ≤ c0_1) (h : laws_FnExactStartsFor.f k a0_0 l0_1 a1 a2 = some r) :
    Calls Tryd.prog 3 #[.agg #[.int .i64 a0_0, .slice A0_1 l0_1.length c0_1], .string a1, .string a2] w fun e w' => e = .returned (.bool r) ∧ Below w.heap.size w w' := by
  have hu24 := Tryd.underlying24
  have hu28 := Tryd.underlying28
  have HR0_1 := Aside0.mk hr0_1
  have HC0_1 := Aside0.mk hc0_1
  clear hr0_1 hc0_1
  have HB := Aside0.mk (Below.refl w.heap.size w)
  have H : (if (a1.size : Int) > 1048576 then (some true) else (if (a2.size : Int) > 1048576 then (some true) else ((laws_szLadder.f a0_0 l0_1 1048576).bind fun t182 => (if t182 < 0 then (some true) else ((laws_toLadder.f k a0_0 l0_1).bind fun bt183 => ((spec_StartsFor.f k bt183.1 bt183.2 a1 a2).bind fun bt187 => ((laws_toLadder.f k a0_0 l0_1).bind fun bt191 => ((impl_StartsFor.f k bt191.1 bt191.2 a1 a2).bind fun bt196 => ((laws_eqIntS.f k bt196.1 bt187.1).bind fun t200 => (if t200 = true then (laws_FnExactStartsFor.j0 k a1 a2 bt187.1 bt187.2 bt196.1 bt196.2 (bt196.2 != bt187.2) a0_0 l0_1 bt191.1 bt191.2) else (none))))))))))) = some r := h
  clear h
  by_cases c4 : (a1.size : Int) > 1048576
  · rw [if_pos c4] at H
    have c4b0 : decide (1048576 < (a1.size : Int)) = true := decide_eq_true c4
    have c4b1 : decide (1048576 < a1.size) = true := decide_eq_true (by omega)
    clear c4
    obtain rfl := Option.some.inj H
    go_enter Tryd.func3, Tryd.ntmps3
    go_wp2_with (first | ((with_reducible refine gate_dst (N := 3) rfl ?_); refine bx 3 #[.int .i64 a0_0, .slice A0_1 l0_1.length c0_1] 24 ?_; intro gb181 hg w5 hbox hb; have BK181 := Aside0.mk (hbox); have GW181 := gE hg HB; have GE181 := gE hg HB; replace HB := uD HB hb; clear hb hbox hg))
    go_ret
    exact ⟨by first | rfl | (simp [errW_none, errW_some] <;> rfl) | (simp [*, errW_none, errW_some] <;> rfl), qD HB⟩
  · rw [if_neg c4] at H
    have c4b0 : decide (1048576 < (a1.size : Int)) = false := decide_eq_false c4
    have c4b1 : decide (1048576 < a1.size) = false := decide_eq_false (by omega)
    clear c4
    by_cases c6 : (a2.size : Int) > 1048576
    · rw [if_pos c6] at H
      have c6b0 : decide (1048576 < (a2.size : Int)) = true := decide_eq_true c6
      have c6b1 : decide (1048576 < a2.size) = true := decide_eq_true (by omega)
      clear c6
      obtain rfl := Option.some.inj H
      go_enter Tryd.func3, Tryd.ntmps3
      go_wp2_with (first | ((with_reducible refine gate_dst (N := 3) rfl ?_); refine bx 3 #[.int .i64 a0_0, .slice A0_1 l0_1.length c0_1] 24 ?_; intro gb181 hg w7 hbox hb; have BK181 := Aside0.mk (hbox); have GW181 := gE hg HB; have GE181 := gE hg HB; replace HB := uD HB hb; clear hb hbox hg))
      go_ret
      exact ⟨by first | rfl | (simp [errW_none, errW_some] <;> rfl) | (simp [*, errW_none, errW_some] <;> rfl), qD HB⟩
    · rw [if_neg c6] at H
      have c6b0 : decide (1048576 < (a2.size : Int)) = false := decide_eq_false c6
      have c6b1 : decide (1048576 < a2.size) = false := decide_eq_false (by omega)
      clear c6
      replace H := Option.bind_eq_some_iff.mp H
      obtain ⟨t182, A80, H⟩ := H
      replace H : (if t182 < 0 then (some true) else ((laws_toLadder.f k a0_0 l0_1).bind fun bt183 => ((spec_StartsFor.f k bt183.1 bt183.2 a1 a2).bind fun bt187 => ((laws_toLadder.f k a0_0 l0_1).bind fun bt191 => ((impl_StartsFor.f k bt191.1 bt191.2 a1 a2).bind fun bt196 => ((laws_eqIntS.f k bt196.1 bt187.1).bind fun t200 => (if t200 = true then (laws_FnExactStartsFor.j0 k a1 a2 bt187.1 bt187.2 bt196.1 bt196.2 (bt196.2 != bt187.2) a0_0 l0_1 bt191.1 bt191.2) else (none)))))))) = some r := H
      have A8 := Aside0.mk A80
      clear A80
      by_cases c9 : t182 < 0
      · rw [if_pos c9] at H
        have c9b0 : decide (t182 < 0) = true := decide_eq_true c9
        clear c9
        obtain rfl := Option.some.inj H
        go_enter Tryd.func3, Tryd.ntmps3
        go_wp2_with (first | ((with_reducible refine gate_dst (N := 3) rfl ?_); refine bx 3 #[.int .i64 a0_0, .slice A0_1 l0_1.length c0_1] 24 ?_; intro gb181 hg w10 hbox hb; have BK181 := Aside0.mk (hbox); have GW181 := gE hg HB; have GE181 := gE hg HB; replace HB := uD HB hb; clear hb hbox hg; have hcz11_0 := cl BK181 0; have hcz11_1 := cl BK181 1; have hfz11_0 := blk_frozen BK181.out 0; have hfz11_1 := blk_frozen BK181.out 1) | ((with_reducible refine gate_callee (f := 4) rfl ?_); refine gs (some 26) Tryd.func4 #[.agg #[.int .i64 a0_0, .slice A0_1 l0_1.length c0_1], .int .i64 1048576] ?_; (with_reducible refine (laws_szLadder.calls a0_0 _ _ l0_1 1048576 t182 _ ?side1 ?side2 A8.out).mono ?_); (case side1 => exact qC (Kd.C_below HR0_1.out HB.out)); (case side2 => exact HC0_1.out); rintro e w12 ⟨rfl, hb⟩; refine ⟨_, rfl, ?_⟩; replace BK181 := uB BK181 hb; replace HB := uD HB hb; (try clear hb); (try clear hb2); (try clear hk); (try clear hi)))
        go_ret
        exact ⟨by first | rfl | (simp [errW_none, errW_some] <;> rfl) | (simp [*, errW_none, errW_some] <;> rfl), qD HB⟩
      · rw [if_neg c9] at H
        have c9b0 : decide (t182 < 0) = false := decide_eq_false c9
        clear c9
        replace H := Option.bind_eq_some_iff.mp H
        obtain ⟨⟨t183, t184⟩, A130, H⟩ := H
        replace H : ((spec_StartsFor.f k t183 t184 a1 a2).bind fun bt187 => ((laws_toLadder.f k a0_0 l0_1).bind fun bt191 => ((impl_StartsFor.f k bt191.1 bt191.2 a1 a2).bind fun bt196 => ((laws_eqIntS.f k bt196.1 bt187.1).bind fun t200 => (if t200 = true then (laws_FnExactStartsFor.j0 k a1 a2 bt187.1 bt187.2 bt196.1 bt196.2 (bt196.2 != bt187.2) a0_0 l0_1 bt191.1 bt191.2) else (none)))))) = some r := H
        have A13 := Aside0.mk A130
        clear A130
        replace H := Option.bind_eq_some_iff.mp H
        obtain ⟨⟨t187, t190⟩, A140, H⟩ := H
        replace H : ((laws_toLadder.f k a0_0 l0_1).bind fun bt191 => ((impl_StartsFor.f k bt191.1 bt191.2 a1 a2).bind fun bt196 => ((laws_eqIntS.f k bt196.1 t187).bind fun t200 => (if t200 = true then (laws_FnExactStartsFor.j0 k a1 a2 t187 t190 bt196.1 bt196.2 (bt196.2 != t190) a0_0 l0_1 bt191.1 bt191.2) else (none))))) = some r := H
        have A14 := Aside0.mk A140
        clear A140
        replace H := Option.bind_eq_some_iff.mp H
        obtain ⟨⟨t191, t192⟩, A150, H⟩ := H
        replace H : ((impl_StartsFor.f k t191 t192 a1 a2).bind fun bt196 => ((laws_eqIntS.f k bt196.1 t187).bind fun t200 => (if t200 = true then (laws_FnExactStartsFor.j0 k a1 a2 t187 t190 bt196.1 bt196.2 (bt196.2 != t190) a0_0 l0_1 t191 t192) else (none)))) = some r := H
        have A15 := Aside0.mk A150
        clear A150
        replace H := Option.bind_eq_some_iff.mp H
        obtain ⟨⟨t196, t199⟩, A160, H⟩ := H
        replace H : ((laws_eqIntS.f k t196 t187).bind fun t200 => (if t200 = true then (laws_FnExactStartsFor.j0 k a1 a2 t187 t190 t196 t199 (t199 != t190) a0_0 l0_1 t191 t192) else (none))) = some r := H
        have A16 := Aside0.mk A160
        clear A160
        have HC17 := Aside0.mk H
        clear H
        go_enter Tryd.func3, Tryd.ntmps3
        go_upto_region 12 with (first | ((with_reducible refine gate_dst (N := 3) rfl ?_); refine bx 3 #[.int .i64 a0_0, .slice A0_1 l0_1.length c0_1] 24 ?_; intro gb181 hg w18 hbox hb; have BK181 := Aside0.mk (hbox); have GW181 := gE hg HB; have GE181 := gE hg HB; replace HB := uD HB hb; clear hb hbox hg; have hcz19_0 := cl BK181 0; have hcz19_1 := cl BK181 1; have hfz19_0 := blk_frozen BK181.out 0; have hfz19_1 := blk_frozen BK181.out 1) | ((with_reducible refine gate_callee (f := 4) rfl ?_); refine gs (some 26) Tryd.func4 #[.agg #[.int .i64 a0_0, .slice A0_1 l0_1.length c0_1], .int .i64 1048576] ?_; (with_reducible refine (laws_szLadder.calls a0_0 _ _ l0_1 1048576 t182 _ ?side1 ?side2 A8.out).mono ?_); (case side1 => exact qC (Kd.C_below HR0_1.out HB.out)); (case side2 => exact HC0_1.out); rintro e w20 ⟨rfl, hb⟩; refine ⟨_, rfl, ?_⟩; replace BK181 := uB BK181 hb; replace HB := uD HB hb; (try clear hb); (try clear hb2); (try clear hk); (try clear hi); have hcz21_0 := cl BK181 0; have hcz21_1 := cl BK181 1; have hfz21_0 := blk_frozen BK181.out 0; have hfz21_1 := blk_frozen BK181.out 1) | ((with_reducible refine gate_callee (f := 6) rfl ?_); refine gs (some 31) Tryd.func6 #[.agg #[.int .i64 a0_0, .slice A0_1 l0_1.length c0_1]] ?_; (with_reducible refine (laws_toLadder.calls k a0_0 _ _ l0_1 t183 t184 _ ?side1 ?side2 A13.out).mono ?_); (case side1 => exact qC (Kd.C_below HR0_1.out HB.out)); (case side2 => exact HC0_1.out); rintro e w22 ⟨v185, rfl, ho0, hb⟩; refine ⟨_, rfl, ?_⟩; have HO186 := Aside0.mk (Kd.R_lower ho0 (below_size (qD HB))); replace BK181 := uB BK181 hb; replace HB := uD HB hb; (try clear hb); (try clear hb2); (try clear hk); (try clear hi); (try clear ho0); obtain ⟨Ao23, co23, eo23⟩ := Kd.R_slice HO186.out; subst eo23) | ((with_reducible refine gate_callee (f := 5) rfl ?_); refine gs (some 34) Tryd.func5 #[.agg #[.int .i64 t183, .slice Ao23 t184.length co23], .string a1, .string a2] ?_; (with_reducible refine (spec_StartsFor.calls k t183 _ _ t184 a1 a2 t187 t190 _ ?side1 ?side2 A14.out).mono ?_); (case side1 => exact qC (Kd.R_reads' HO186.out).2.2); (case side2 => exact (Kd.R_reads' HO186.out).2.1); rintro e w24 ⟨v188, rfl, ho0, hb⟩; refine ⟨_, rfl, ?_⟩; have HO189 := Aside0.mk (Kd.R_lower (Kd.R_new' ho0 (Kd.R_lt (qR HO186))) (below_size (qD HB))); replace HO186 := eR HO186 ho0 hb; replace BK181 := uB BK181 hb; replace HB := uD HB hb; (try clear hb); (try clear hb2); (try clear hk); (try clear hi); (try clear ho0); have hcz25_0 := cl BK181 0; have hcz25_1 := cl BK181 1; have hfz25_0 := blk_frozen BK181.out 0; have hfz25_1 := blk_frozen BK181.out 1) | ((with_reducible refine gate_callee (f := 6) rfl ?_); refine gs (some 38) Tryd.func6 #[.agg #[.int .i64 a0_0, .slice A0_1 l0_1.length c0_1]] ?_; (with_reducible refine (laws_toLadder.calls k a0_0 _ _ l0_1 t191 t192 _ ?side1 ?side2 A15.out).mono ?_); (case side1 => exact qC (Kd.C_below HR0_1.out HB.out)); (case side2 => exact HC0_1.out); rintro e w26 ⟨v193, rfl, ho0, hb⟩; refine ⟨_, rfl, ?_⟩; have HO194 := Aside0.mk (Kd.R_lower (Kd.R_new' (Kd.R_new' ho0 (Kd.R_lt (qR HO186))) (Kd.R_lt (qR HO189))) (below_size (qD HB))); replace HO186 := eR HO186 ho0 hb; replace HO189 := eR HO189 ho0 hb; replace BK181 := uB BK181 hb; replace HB := uD HB hb; (try clear hb); (try clear hb2); (try clear hk); (try clear hi); (try clear ho0)) | ((with_reducible refine gate_dst (N := 10) rfl ?_); refine bx 10 #[.int .i64 0, .slice none 0 0] 28 ?_; intro gb195 hg w27 hbox hb; replace HO186 := uR HO186 hb; replace HO189 := uR HO189 hb; replace HO194 := uR HO194 hb; have BK195 := Aside0.mk (hbox); have GW195 := gE hg HB; have GE195 := gE hg HB; replace HB := uD HB hb; have NB181_195 := nB hg BK181; have NB195_181 := nC hg BK181; replace BK181 := uB BK181 hb; clear hb hbox hg; have hnb28 := NB195_181.out; have hnc28 := NB181_195.out; have hcz29_0 := cl BK195 0; have hcz29_1 := cl BK195 1; have hfz29_0 := blk_frozen BK195.out 0; have hfz29_1 := blk_frozen BK195.out 1; obtain ⟨Ao30, co30, eo30⟩ := Kd.R_slice HO194.out; subst eo30) | ((with_reducible refine gate_callee (f := 7) rfl ?_); refine gs (some 43) Tryd.func7 #[.agg #[.int .i64 t191, .slice Ao30 t192.length co30], .string a1, .string a2] ?_; (with_reducible refine (impl_StartsFor.calls k t191 _ _ t192 a1 a2 t196 t199 _ ?side1 ?side2 A16.out).mono ?_); (case side1 => refine (Kd.R_reads' (e := 3) (base := w.heap.size) (ok := fun k_ => ((True ∧ some k_ ≠ (.slice Ao23 t184.length co23 : Value).ownBlock) ∧ some k_ ≠ (v188 : Value).ownBlock)) (n := t192.length) (c := co30) ?_).2.2; exact (qFp (qF HO194 BK195))); (case side2 => exact (Kd.R_reads' HO194.out).2.1); rintro e w31 ⟨v197, rfl, ho0, hb⟩; refine ⟨_, rfl, ?_⟩; have n0_ := Aside0.mk (Kd.R_elder' (qFp (qF HO186 BK195)) (Kd.R_base ho0) hb); have n1_ := Aside0.mk (Kd.R_elder' (qFp (qF HO189 BK195)) (Kd.R_base ho0) hb); have n2_ := Aside0.mk (Kd.R_elder' (qFp (qF HO194 BK195)) (Kd.R_base ho0) hb); have n3_ := Aside0.mk (Kd.R_lower (Kd.R_new' (Kd.R_new' (Kd.R_new' ho0 (Kd.R_lt (qFp (qF HO186 BK195)))) (Kd.R_lt (qFp (qF HO189 BK195)))) (Kd.R_lt (qFp (qF HO194 BK195)))) (below_size (qD HB))); have n4_ := uB BK181 hb; have n5_ := Aside0.mk (blk_below (g := gb195) (o := .cells #[.int .i64 t191, .slice Ao30 t192.length co30] 28 (0, 0)) (by (with_reducible repeat (first | refine blk_drewN ?_ _ | refine blk_drew ?_ | refine blk_alloc ?_ _)); refine blk_put (cs := #[.int .i64 t191, .slice none 0 0]) ?_ 1 _ rfl; (with_reducible repeat (first | refine blk_drewN ?_ _ | refine blk_drew ?_ | refine blk_alloc ?_ _)); refine blk_put (cs := #[.int .i64 0, .slice none 0 0]) ?_ 0 _ rfl; (with_reducible repeat (first | refine blk_drewN ?_ _ | refine blk_drew ?_ | refine blk_alloc ?_ _)); exact BK195.out) hb); have n6_ := uD HB hb; clear HO186; clear HO189; clear HO194; clear BK181; clear BK195; clear HB; have HO186 := n0_; have HO189 := n1_; have HO194 := n2_; have HO198 := n3_; have BK181 := n4_; have BK195 := n5_; have HB := n6_; clear n0_ n1_ n2_ n3_ n4_ n5_ n6_; (try clear hb); (try clear hb2); (try clear hk); (try clear hi); (try clear ho0)))
        (try simp only [Act.put, List.setIfInBounds_toArray, List.set_cons_zero, List.set_cons_succ])
        go_cut [54] (fun v54 wc => ∃ (kq : Nat) (x54_16 : Bool), v54 = .bool x54_16 ∧ Aside0 (laws_FnExactStartsFor.j0 kq a1 a2 t187 t190 t196 t199 x54_16 a0_0 l0_1 t191 t192 = some r) ∧ Aside0 (kq ≤ k) ∧ Aside0 (Kd.R (Kd.int .i64) 3 wc w.heap.size (fun k_ => some k_ ≠ (v197 : Value).ownBlock ∧ some k_ ≠ ((.slice Ao30 t192.length co30) : Value).ownBlock) v188 t187) ∧ Aside0 (Kd.R (Kd.int .i64) 3 wc w.heap.size (fun k_ => some k_ ≠ (v188 : Value).ownBlock ∧ some k_ ≠ ((.slice Ao30 t192.length co30) : Value).ownBlock) v197 t196) ∧ Aside0 (Kd.R (Kd.int .i64) 3 wc w.heap.size (fun k_ => some k_ ≠ (v188 : Value).ownBlock ∧ some k_ ≠ (v197 : Value).ownBlock) (.slice Ao30 t192.length co30) t192) ∧ Aside0 (wc.heap[gb181]? = some (.cells #[.int .i64 a0_0, (.slice A0_1 l0_1.length c0_1)] 24 (0, 0))) ∧ Aside0 (wc.heap[gb195]? = some (.cells #[.int .i64 t191, (.slice Ao30 t192.length co30)] 28 (0, 0))) ∧ Aside0 (Below w.heap.size w wc))
        case first =>
          have H := HC17.out
          clear HC17
          replace H := Option.bind_eq_some_iff.mp H
          obtain ⟨t200, A320, H⟩ := H
          replace H : (if t200 = true then (laws_FnExactStartsFor.j0 k a1 a2 t187 t190 t196 t199 (t199 != t190) a0_0 l0_1 t191 t192) else (none)) = some r := H
          have A32 := Aside0.mk A320
          clear A320
          by_cases c33 : t200 = true
          · subst c33
            have H1 : (laws_FnExactStartsFor.j0 k a1 a2 t187 t190 t196 t199 (t199 != t190) a0_0 l0_1 t191 t192) = some r := by rw [if_pos rfl] at H; exact H
            clear H
            have H := H1
            clear H1
            have H' := Aside0.mk H
            clear H
            obtain ⟨Ao34, co34, eo34⟩ := Kd.R_slice HO198.out
            subst eo34
            obtain ⟨Ao35, co35, eo35⟩ := Kd.R_slice HO189.out
            subst eo35
            go_wp2_with (first | ((with_reducible refine gate_callee (f := 8) rfl ?_); refine gs (some 48) Tryd.func8 #[.slice Ao34 t196.length co34, .slice Ao35 t187.length co35] ?_; (with_reducible refine (laws_eqIntS.calls k _ _ t196 _ _ t187 true _ ?side1 ?side2 ?side3 ?side4 A32.out).mono ?_); (case side1 => exact qC (Kd.R_reads' HO198.out).2.2); (case side2 => exact (Kd.R_reads' HO198.out).2.1); (case side3 => exact qC (Kd.R_reads' HO189.out).2.2); (case side4 => exact (Kd.R_reads' HO189.out).2.1); rintro e w' ⟨rfl, ⟨nd, rfl⟩⟩; refine ⟨_, rfl, ?_⟩))
            go_meet
            case rel => exact ⟨_, ((t199 != t190)), (by first | rfl | (simp; done) | (simp [*]; done) | (simp [bne]; done)), H', ⟨by first | omega | exact Nat.le_refl _⟩, ⟨mR HO189 (fun _ hk => ⟨hk.2, hk.1.2⟩)⟩, ⟨mR HO198 (fun _ hk => ⟨hk.1.2, hk.2⟩)⟩, ⟨mR HO194 (fun _ hk => ⟨hk.1.2, hk.2⟩)⟩, ⟨qB BK181⟩, ⟨qB BK195⟩, ⟨qD HB⟩⟩
          · replace c33 := Bool.eq_false_iff.mpr c33
            subst c33
            have H1 : (none) = some r := by rw [if_neg (show ¬ (false = true) by decide)] at H; exact H
            exact absurd H1 (by simp)
        case rest =>
          clear HC17
          try clear c2
          try clear p2
          try clear c3
          try clear c4
          try clear c4b0
          try clear c4b1
          try clear c5
          try clear c6
          try clear c6b0
          try clear c6b1
          try clear c7
          try clear c8
          try clear c9
          try clear c9b0
          try clear c28
          try clear c33
          try clear hcz11_0
          try clear hcz11_1
          try clear hcz19_0
          try clear hcz19_1
          try clear hcz21_0
          try clear hcz21_1
          try clear hcz25_0
          try clear hcz25_1
          try clear hcz29_0
          try clear hcz29_1
          try clear hfz11_0
          try clear hfz11_1
          try clear hfz19_0
          try clear hfz19_1
          try clear hfz21_0
          try clear hfz21_1
          try clear hfz25_0
          try clear hfz25_1
          try clear hfz29_0
          try clear hfz29_1
          obtain ⟨kq, x54_16, rfl, HA, HJ16, HO_8, HO_11, HO_196001, BK181, BK195, HB⟩ := hcut
          cases kq with
          | zero => exact absurd HA.out (by simp [laws_FnExactStartsFor.j0])
          | succ kj16 =>
            have H := HA.out
            clear HA
            simp only [laws_FnExactStartsFor.j0] at H
            by_cases c38 : x54_16 = true
            · subst c38
              have H1 : (none) = some r := by rw [if_pos rfl] at H; exact H
              exact absurd H1 (by simp)
            · replace c38 := Bool.eq_false_iff.mpr c38
              subst c38
              have H1 : ((laws_toLadder.f kj16 a0_0 l0_1).bind fun bt201 => ((laws_eqLadder.f kj16 t191 t192 bt201.1 bt201.2).bind fun t205 => (if t205 = true then ((laws_markLadder.f kj16 t191 t192 1).bind fun bt206 => (if bt206.1 < 0 then (none) else ((laws_eqIntS.f kj16 t196 t187).bind fun t208 => (if t208 = true then (laws_FnExactStartsFor.j1 kj16 a1 a2 t187 t190 t196 (t199 != t190) a0_0 l0_1) else (none))))) else (none)))) = some r := by rw [if_neg (show ¬ (false = true) by decide)] at H; exact H
              clear H
              have H := H1
              clear H1
              replace H := Option.bind_eq_some_iff.mp H
              obtain ⟨⟨t201, t202⟩, A390, H⟩ := H
              replace H : ((laws_eqLadder.f kj16 t191 t192 t201 t202).bind fun t205 => (if t205 = true then ((laws_markLadder.f kj16 t191 t192 1).bind fun bt206 => (if bt206.1 < 0 then (none) else ((laws_eqIntS.f kj16 t196 t187).bind fun t208 => (if t208 = true then (laws_FnExactStartsFor.j1 kj16 a1 a2 t187 t190 t196 (t199 != t190) a0_0 l0_1) else (none))))) else (none))) = some r := H
              have A39 := Aside0.mk A390
              clear A390
              replace H := Option.bind_eq_some_iff.mp H
              obtain ⟨t205, A400, H⟩ := H
              replace H : (if t205 = true then ((laws_markLadder.f kj16 t191 t192 1).bind fun bt206 => (if bt206.1 < 0 then (none) else ((laws_eqIntS.f kj16 t196 t187).bind fun t208 => (if t208 = true then (laws_FnExactStartsFor.j1 kj16 a1 a2 t187 t190 t196 (t199 != t190) a0_0 l0_1) else (none))))) else (none)) = some r := H
              have A40 := Aside0.mk A400
              clear A400
              by_cases c41 : t205 = true
              · subst c41
                have H1 : ((laws_markLadder.f kj16 t191 t192 1).bind fun bt206 => (if bt206.1 < 0 then (none) else ((laws_eqIntS.f kj16 t196 t187).bind fun t208 => (if t208 = true then (laws_FnExactStartsFor.j1 kj16 a1 a2 t187 t190 t196 (t199 != t190) a0_0 l0_1) else (none))))) = some r := by rw [if_pos rfl] at H; exact H
                clear H
                have H := H1
                clear H1
                replace H := Option.bind_eq_some_iff.mp H
                obtain ⟨⟨t206, t207⟩, A420, H⟩ := H
                replace H : (if t206 < 0 then (none) else ((laws_eqIntS.f kj16 t196 t187).bind fun t208 => (if t208 = true then (laws_FnExactStartsFor.j1 kj16 a1 a2 t187 t190 t196 (t199 != t190) a0_0 l0_1) else (none)))) = some r := H
                have A42 := Aside0.mk A420
                clear A420
                have HC43 := Aside0.mk H
                clear H
                try go_wp2
                replace HO_8 := Aside0.mk (Kd.R_drew HO_8.out)
                replace HO_11 := Aside0.mk (Kd.R_drew HO_11.out)
                replace HO_196001 := Aside0.mk (Kd.R_drew HO_196001.out)
                replace BK181 := Aside0.mk (blk_drew BK181.out)
                replace BK195 := Aside0.mk (blk_drew BK195.out)
                replace HB := Aside0.mk (below_drew1 HB.out)
                refine start_ (n := 5) (S := fun w' => w'.cell? ⟨gb195, 0, none⟩ = some (.int .i64 t191) ∧ w'.cell? ⟨gb195, 1, none⟩ = some (.slice Ao30 t192.length co30) ∧ w'.cell? ⟨gb181, 0, none⟩ = some (.int .i64 a0_0) ∧ w'.cell? ⟨gb181, 1, none⟩ = some (.slice A0_1 l0_1.length c0_1)) (ds := []) #[false, false, false, false, false] (by kernel_rfl) rfl rfl ⟨cl BK195 0, cl BK195 1, cl BK181 0, cl BK181 1⟩ (fun hHeld => ?_)
                generalize wc.drew = w44 at HO_8 HO_11 HO_196001 BK181 BK195 HB hHeld ⊢
                refine take_ (i := 0) (N := some 55) (v := ?_) (a' := ?_) #[true, false, false, false, false] rfl rfl (by kernel_rfl) (fun _ _ _ h => h) (Or.inl ⟨by rfl, ?_⟩) hHeld ?_ ?_
                rotate_left
                · rintro w' ⟨s0, s1, s2, s3⟩
                  go_simp
                  with_reducible rfl
                rotate_left
                · simp only [Act.put, List.setIfInBounds_toArray, List.set_cons_zero, List.set_cons_succ, i64_w, i32_w]
                  rfl
                refine take_ (i := 1) (N := some 56) (v := ?_) (a' := ?_) #[true, true, false, false, false] rfl rfl (by kernel_rfl) (fun _ _ _ h => h) (Or.inl ⟨by rfl, ?_⟩) hHeld ?_ ?_
                rotate_left
                · rintro w' ⟨s0, s1, s2, s3⟩
                  go_simp
                  with_reducible rfl
                rotate_left
                · simp only [Act.put, List.setIfInBounds_toArray, List.set_cons_zero, List.set_cons_succ, i64_w, i32_w]
                  rfl
                refine one_ (i := 2) (N := some 57) #[true, true, true, false, false] rfl rfl (by kernel_rfl) (by decide) (fun K hK => ?_)
                refine gt Tryd.func6 #[.agg #[.int .i64 a0_0, .slice A0_1 l0_1.length c0_1]] ?_
                with_reducible refine (laws_toLadder.calls kj16 a0_0 _ _ l0_1 t201 t202 _ ?side1 ?side2 A39.out).mono ?_
                (case side1 => exact qC (Kd.C_below HR0_1.out HB.out))
                (case side2 => exact HC0_1.out)
                rintro e w45 ⟨v203, rfl, ho0, hb⟩
                refine ⟨_, rfl, ?_⟩
                have HO204 := Aside0.mk (Kd.R_lower (Kd.R_new' (Kd.R_new' (Kd.R_new' ho0 (Kd.R_lt (qR HO_8))) (Kd.R_lt (qR HO_11))) (Kd.R_lt (qR HO_196001))) (below_size (qD HB)))
                replace HO_8 := eR HO_8 ho0 hb
                replace HO_11 := eR HO_11 ho0 hb
                replace HO_196001 := eR HO_196001 ho0 hb
                replace BK181 := uB BK181 hb
                replace BK195 := uB BK195 hb
                replace HB := uD HB hb
                (try clear hb)
                (try clear hb2)
                (try clear hk)
                (try clear hi)
                (try clear ho0)
                obtain ⟨Ao46, co46, eo46⟩ := Kd.R_slice HO204.out
                (first | subst eo46 | (injection eo46 with f1_ f2_ f3_; have f4_ := f1_.symm; have f5_ := f3_.symm; clear f1_ f2_ f3_; subst f4_; subst f5_))
                refine hK.out _ _ ⟨cl BK195 0, cl BK195 1, cl BK181 0, cl BK181 1⟩ (fun hHeld => ?_)
                clear hK K
                refine nm (some 57) ?_
                refine one_ (i := 3) (N := some 58) #[true, true, true, true, false] rfl rfl (by kernel_rfl) (by decide) (fun K hK => ?_)
                refine gt Tryd.func9 #[.agg #[.int .i64 t191, .slice Ao30 t192.length co30], .agg #[.int .i64 t201, .slice Ao46 t202.length co46]] ?_
                with_reducible refine (laws_eqLadder.calls kj16 t191 _ _ t192 t201 _ _ t202 true _ ?side1 ?side2 ?side3 ?side4 A40.out).mono ?_
                (case side1 => exact qC (Kd.R_reads' HO_196001.out).2.2)
                (case side2 => exact (Kd.R_reads' HO_196001.out).2.1)
                (case side3 => exact qC (Kd.R_reads' HO204.out).2.2)
                (case side4 => exact (Kd.R_reads' HO204.out).2.1)
                rintro e w47 ⟨rfl, hb⟩
                refine ⟨_, rfl, ?_⟩
                replace HO_8 := uR HO_8 hb
                replace HO_11 := uR HO_11 hb
                replace HO_196001 := uR HO_196001 hb
                replace HO204 := uR HO204 hb
                replace BK181 := uB BK181 hb
                replace BK195 := uB BK195 hb
                replace HB := uD HB hb
                (try clear hb)
                (try clear hb2)
                (try clear hk)
                (try clear hi)
                refine hK.out _ _ ⟨cl BK195 0, cl BK195 1, cl BK181 0, cl BK181 1⟩ (fun hHeld => ?_)
                clear hK K
                refine nm (some 58) ?_
                refine pure_ (i := 4) (N := some 59) (v := ?_) (a' := ?_) #[true, true, true, true, true] rfl rfl (by kernel_rfl) (fun _ _ _ h => h) (Or.inl ⟨by rfl, ?_⟩) ?_ ?_
                rotate_left
                · intro w'
                  go_simp
                  with_reducible rfl
                rotate_left
                · simp only [Act.put, List.setIfInBounds_toArray, List.set_cons_zero, List.set_cons_succ, i64_w, i32_w]
                  rfl
                refine done_ (by kernel_rfl) ?_
                have hnb48 := NB195_181.out
                have hnc48 := NB181_195.out
                have hcz49_0 := cl BK195 0
                have hcz49_1 := cl BK195 1
                have hfz49_0 := blk_frozen BK195.out 0
                have hfz49_1 := blk_frozen BK195.out 1
                go_upto_region 18 with (first | ((with_reducible refine gate_callee (f := 10) rfl ?_); refine gs (some 62) Tryd.func10 #[.agg #[.int .i64 t191, .slice Ao30 t192.length co30], .int .i64 1] ?_; (with_reducible refine (laws_markLadder.calls kj16 t191 (fun k_ => some k_ = (.slice Ao30 t192.length co30 : Value).ownBlock) (.slice Ao30 t192.length co30) t192 1 t206 t207 w _ ?side1 ?side2 A42.out).mono ?_); (case side1 => repeat (first | (with_reducible first | exact HB.out | apply below_alloc | apply pw_below_drewN | apply below_drew1 | refine below_set ?_ GE181.out | refine below_set ?_ GE195.out) | exact HB.out)); (case side2 => exact Kd.R_tight rfl HO_196001.out); rintro e w50 ⟨rfl, hy0, hb, hkp⟩; refine ⟨_, rfl, ?_⟩; replace HO_8 := Aside0.mk (Kd.R_mono (ok' := fun k_ => some k_ ≠ (v197 : Value).ownBlock ∧ some k_ ≠ (.slice Ao30 t192.length co30 : Value).ownBlock ∧ some k_ ≠ (.slice Ao46 t202.length co46 : Value).ownBlock) (Kd.R_keptB (HO_8.out) hkp (fun k_ hk_ hs_ => (hk_.1.2) hs_)) (fun k_ hk_ => ⟨hk_.1.1.1, hk_.1.1.2, hk_.1.2⟩)); replace HO_11 := Aside0.mk (Kd.R_mono (ok' := fun k_ => some k_ ≠ (v188 : Value).ownBlock ∧ some k_ ≠ (.slice Ao30 t192.length co30 : Value).ownBlock ∧ some k_ ≠ (.slice Ao46 t202.length co46 : Value).ownBlock) (Kd.R_keptB (HO_11.out) hkp (fun k_ hk_ hs_ => (hk_.1.2) hs_)) (fun k_ hk_ => ⟨hk_.1.1.1, hk_.1.1.2, hk_.1.2⟩)); replace BK181 := Aside0.mk (blk_kept (qB BK181) hkp (fun hs_ => (fun e_ => (Kd.R_ne HO_196001.out BK181.out (by decide)) e_) hs_)); replace BK195 := Aside0.mk (blk_kept (qB BK195) hkp (fun hs_ => (fun e_ => (Kd.R_ne HO_196001.out BK195.out (by decide)) e_) hs_)); replace HO_196001 := Aside0.mk (Kd.R_reok rfl hy0 (fun k_ e_ => HO_196001.out.1 k_ e_)); replace HO204 := Aside0.mk (Kd.R_mono (ok' := fun k_ => some k_ ≠ (v188 : Value).ownBlock ∧ some k_ ≠ (v197 : Value).ownBlock ∧ some k_ ≠ (.slice Ao30 t192.length co30 : Value).ownBlock) (Kd.R_keptB (HO204.out) hkp (fun k_ hk_ hs_ => (hk_.2) hs_)) (fun k_ hk_ => ⟨hk_.1.1.1.2, hk_.1.1.2, hk_.1.2⟩)); replace HB := Aside0.mk (hb); (try clear hb); (try clear hkp); (try clear hy0)))
                (try simp only [Act.put, List.setIfInBounds_toArray, List.set_cons_zero, List.set_cons_succ])
                go_cut [75] (fun v75 wc => ∃ (kq : Nat) (x75_42 : Bool), v75 = .bool x75_42 ∧ Aside0 (laws_FnExactStartsFor.j1 kq a1 a2 t187 t190 t196 x75_42 a0_0 l0_1 = some r) ∧ Aside0 (kq ≤ kj16) ∧ Aside0 (Kd.R (Kd.int .i64) 3 wc w.heap.size (fun k_ => some k_ ≠ (v197 : Value).ownBlock ∧ some k_ ≠ ((.slice Ao30 t192.length co30) : Value).ownBlock) v188 t187) ∧ Aside0 (Kd.R (Kd.int .i64) 3 wc w.heap.size (fun k_ => some k_ ≠ (v188 : Value).ownBlock ∧ some k_ ≠ ((.slice Ao30 t192.length co30) : Value).ownBlock) v197 t196) ∧ Aside0 (Kd.R (Kd.int .i64) 3 wc w.heap.size (fun k_ => some k_ ≠ (v188 : Value).ownBlock ∧ some k_ ≠ (v197 : Value).ownBlock) (.slice Ao30 t192.length co30) t207) ∧ Aside0 (wc.heap[gb181]? = some (.cells #[.int .i64 a0_0, (.slice A0_1 l0_1.length c0_1)] 24 (0, 0))) ∧ Aside0 (wc.heap[gb195]? = some (.cells #[.int .i64 t191, (.slice Ao30 t192.length co30)] 28 (0, 0))) ∧ Aside0 (Below w.heap.size w wc))
                case first =>
                  have H := HC43.out
                  clear HC43
                  by_cases c51 : t206 < 0
                  · rw [if_pos c51] at H
                    exact absurd H (by simp)
                  · rw [if_neg c51] at H
                    have c51b0 : decide (t206 < 0) = false := decide_eq_false c51
                    clear c51
                    (first | rw [c51b0] | (simp only [i64_w, i32_w]; rw [c51b0]) | skip)
                    replace H := Option.bind_eq_some_iff.mp H
                    obtain ⟨t208, A520, H⟩ := H
                    replace H : (if t208 = true then (laws_FnExactStartsFor.j1 kj16 a1 a2 t187 t190 t196 (t199 != t190) a0_0 l0_1) else (none)) = some r := H
                    have A52 := Aside0.mk A520
                    clear A520
                    by_cases c53 : t208 = true
                    · subst c53
                      have H1 : (laws_FnExactStartsFor.j1 kj16 a1 a2 t187 t190 t196 (t199 != t190) a0_0 l0_1) = some r := by rw [if_pos rfl] at H; exact H
                      clear H
                      have H := H1
                      clear H1
                      have H' := Aside0.mk H
                      clear H
                      obtain ⟨Ao54, co54, eo54⟩ := Kd.R_slice HO_11.out
                      subst eo54
                      obtain ⟨Ao55, co55, eo55⟩ := Kd.R_slice HO_8.out
                      subst eo55
                      go_wp2_with (first | (go_at_call 8; (with_reducible refine (laws_eqIntS.calls kj16 _ _ t196 _ _ t187 true _ ?side1 ?side2 ?side3 ?side4 A52.out).mono ?_); (case side1 => exact qC (Kd.R_reads' HO_11.out).2.2); (case side2 => exact (Kd.R_reads' HO_11.out).2.1); (case side3 => exact qC (Kd.R_reads' HO_8.out).2.2); (case side4 => exact (Kd.R_reads' HO_8.out).2.1); rintro e w' ⟨rfl, ⟨nd, rfl⟩⟩))
                      go_meet
                      case rel => exact ⟨_, ((t199 != t190)), (by first | rfl | (simp; done) | (simp [*]; done) | (simp [bne]; done)), H', ⟨by have := HJ16.out; first | omega | exact Nat.le_refl _⟩, ⟨mR HO_8 (fun _ hk => ⟨hk.1, hk.2.1⟩)⟩, ⟨mR HO_11 (fun _ hk => ⟨hk.1, hk.2.1⟩)⟩, ⟨mR HO_196001 (fun _ hk => ⟨hk.1.1, hk.1.2⟩)⟩, ⟨qB BK181⟩, ⟨qB BK195⟩, ⟨qD HB⟩⟩
                    · replace c53 := Bool.eq_false_iff.mpr c53
                      subst c53
                      have H1 : (none) = some r := by rw [if_neg (show ¬ (false = true) by decide)] at H; exact H
                      exact absurd H1 (by simp)
                case rest =>
                  clear HC43
                  try clear c1
                  try clear c2
                  try clear p2
                  try clear c3
                  try clear c4
                  try clear c4b0
                  try clear c4b1
                  try clear c5
                  try clear c6
                  try clear c6b0
                  try clear c6b1
                  try clear c7
                  try clear c8
                  try clear c9
                  try clear c9b0
                  try clear c10
                  try clear c28
                  try clear c33
                  try clear c38
                  try clear c41
                  try clear c48
                  try clear c51
                  try clear c51b0
                  try clear c53
                  try clear hcz11_0
                  try clear hcz11_1
                  try clear hcz19_0
                  try clear hcz19_1
                  try clear hcz21_0
                  try clear hcz21_1
                  try clear hcz25_0
                  try clear hcz25_1
                  try clear hcz29_0
                  try clear hcz29_1
                  try clear hcz49_0
                  try clear hcz49_1
                  try clear hfz11_0
                  try clear hfz11_1
                  try clear hfz19_0
                  try clear hfz19_1
                  try clear hfz21_0
                  try clear hfz21_1
                  try clear hfz25_0
                  try clear hfz25_1
                  try clear hfz29_0
                  try clear hfz29_1
                  try clear hfz49_0
                  try clear hfz49_1
                  try clear p2
                  obtain ⟨kq, x75_42, rfl, HA, HJ42, HO_8, HO_11, HO_196001, BK181, BK195, HB⟩ := hcut
                  have hl196001_42 := (Kd.R_reads' HO_196001.out).1
                  rw [hl196001_42] at HO_196001
                  (try simp only [hl196001_42])
                  (try simp only [hl196001_42] at BK181)
                  (try simp only [hl196001_42] at BK195)
                  (try simp only [hl196001_42] at HO_8)
                  (try simp only [hl196001_42] at HO_11)
                  cases kq with
                  | zero => exact absurd HA.out (by simp [laws_FnExactStartsFor.j1])
                  | succ kj42 =>
                    have H := HA.out
                    clear HA
                    simp only [laws_FnExactStartsFor.j1] at H
                    by_cases c58 : x75_42 = true
                    · subst c58
                      have H1 : (none) = some r := by rw [if_pos rfl] at H; exact H
                      exact absurd H1 (by simp)
                    · replace c58 := Bool.eq_false_iff.mpr c58
                      subst c58
                      have H1 : ((laws_markIntS.f kj42 t196 1).bind fun bt209 => ((laws_heldIntS.f kj42 bt209.2 1).bind fun t211 => (if t211 < 0 then (none) else (if t211 = bt209.1 then ((laws_toLadder.f kj42 a0_0 l0_1).bind fun bt212 => ((impl_StartsFor.f kj42 bt212.1 bt212.2 a1 a2).bind fun bt216 => ((laws_eqIntS.f kj42 bt216.1 t187).bind fun t220 => (if t220 = true then (laws_FnExactStartsFor.j2 kj42 bt209.2 bt209.1 (bt216.2 != t190)) else (none))))) else (none))))) = some r := by rw [if_neg (show ¬ (false = true) by decide)] at H; exact H
                      clear H
                      have H := H1
                      clear H1
                      replace H := Option.bind_eq_some_iff.mp H
                      obtain ⟨⟨t209, t210⟩, A590, H⟩ := H
                      replace H : ((laws_heldIntS.f kj42 t210 1).bind fun t211 => (if t211 < 0 then (none) else (if t211 = t209 then ((laws_toLadder.f kj42 a0_0 l0_1).bind fun bt212 => ((impl_StartsFor.f kj42 bt212.1 bt212.2 a1 a2).bind fun bt216 => ((laws_eqIntS.f kj42 bt216.1 t187).bind fun t220 => (if t220 = true then (laws_FnExactStartsFor.j2 kj42 t210 t209 (bt216.2 != t190)) else (none))))) else (none)))) = some r := H
                      have A59 := Aside0.mk A590
                      clear A590
                      replace H := Option.bind_eq_some_iff.mp H
                      obtain ⟨t211, A600, H⟩ := H
                      replace H : (if t211 < 0 then (none) else (if t211 = t209 then ((laws_toLadder.f kj42 a0_0 l0_1).bind fun bt212 => ((impl_StartsFor.f kj42 bt212.1 bt212.2 a1 a2).bind fun bt216 => ((laws_eqIntS.f kj42 bt216.1 t187).bind fun t220 => (if t220 = true then (laws_FnExactStartsFor.j2 kj42 t210 t209 (bt216.2 != t190)) else (none))))) else (none))) = some r := H
                      have A60 := Aside0.mk A600
                      clear A600
                      by_cases c61 : t211 < 0
                      · rw [if_pos c61] at H
                        exact absurd H (by simp)
                      · rw [if_neg c61] at H
                        have c61b0 : decide (t211 < 0) = false := decide_eq_false c61
                        clear c61
                        by_cases c64 : t211 = t209
                        · rw [if_pos c64] at H
                          have c64b0 : (t211 == t209) = true := beq_iff_eq.mpr c64
                          have c64b1 : (t211 != t209) = false := bne_eq_false_iff_eq.mpr c64
                          clear c64
                          replace H := Option.bind_eq_some_iff.mp H
                          obtain ⟨⟨t212, t213⟩, A650, H⟩ := H
                          replace H : ((impl_StartsFor.f kj42 t212 t213 a1 a2).bind fun bt216 => ((laws_eqIntS.f kj42 bt216.1 t187).bind fun t220 => (if t220 = true then (laws_FnExactStartsFor.j2 kj42 t210 t209 (bt216.2 != t190)) else (none)))) = some r := H
                          have A65 := Aside0.mk A650
                          clear A650
                          replace H := Option.bind_eq_some_iff.mp H
                          obtain ⟨⟨t216, t219⟩, A660, H⟩ := H
                          replace H : ((laws_eqIntS.f kj42 t216 t187).bind fun t220 => (if t220 = true then (laws_FnExactStartsFor.j2 kj42 t210 t209 (t219 != t190)) else (none))) = some r := H
                          have A66 := Aside0.mk A660
                          clear A660
                          have HC67 := Aside0.mk H
                          clear H
                          obtain ⟨Ao68, co68, eo68⟩ := Kd.R_slice HO_11.out
                          subst eo68
                          go_upto_region 29 with (first | ((with_reducible refine gate_callee (f := 11) rfl ?_); refine gs (some 78) Tryd.func11 #[.slice Ao68 t196.length co68, .int .i64 1] ?_; (with_reducible refine (laws_markIntS.calls kj42 (fun k_ => some k_ = (.slice Ao68 t196.length co68 : Value).ownBlock) (.slice Ao68 t196.length co68) t196 1 t209 t210 w _ ?side1 ?side2 A59.out).mono ?_); (case side1 => repeat (first | (with_reducible first | exact HB.out | apply below_alloc | apply pw_below_drewN | apply below_drew1 | refine below_set ?_ GE181.out | refine below_set ?_ GE195.out) | exact HB.out)); (case side2 => exact Kd.R_tight rfl HO_11.out); rintro e w69 ⟨rfl, hy0, hb, hkp⟩; refine ⟨_, rfl, ?_⟩; replace HO_8 := Aside0.mk (Kd.R_mono (ok' := fun k_ => some k_ ≠ (.slice Ao68 t196.length co68 : Value).ownBlock ∧ some k_ ≠ (.slice Ao30 t207.length co30 : Value).ownBlock) (Kd.R_keptB (HO_8.out) hkp (fun k_ hk_ hs_ => (hk_.1) hs_)) (fun k_ hk_ => ⟨hk_.1.1, hk_.1.2⟩)); replace HO_196001 := Aside0.mk (Kd.R_mono (ok' := fun k_ => some k_ ≠ (v188 : Value).ownBlock ∧ some k_ ≠ (.slice Ao68 t196.length co68 : Value).ownBlock) (Kd.R_keptB (HO_196001.out) hkp (fun k_ hk_ hs_ => (hk_.2) hs_)) (fun k_ hk_ => ⟨hk_.1.1, hk_.1.2⟩)); replace BK181 := Aside0.mk (blk_kept (qB BK181) hkp (fun hs_ => (fun e_ => (Kd.R_ne HO_11.out BK181.out (by decide)) e_) hs_)); replace BK195 := Aside0.mk (blk_kept (qB BK195) hkp (fun hs_ => (fun e_ => (Kd.R_ne HO_11.out BK195.out (by decide)) e_) hs_)); replace HO_11 := Aside0.mk (Kd.R_reok rfl hy0 (fun k_ e_ => HO_11.out.1 k_ e_)); replace HB := Aside0.mk (hb); (try clear hb); (try clear hkp); (try clear hy0)) | ((with_reducible refine gate_callee (f := 12) rfl ?_); refine goesL_ (some 81) rfl rfl Tryd.func12 (by kernel_rfl) rfl #[.slice Ao68 t210.length co68, .int .i64 1] rfl (by (try simp only [List.map_toArray, List.map_cons, List.map_nil]); first | done | (rw [show t210.length = t196.length from (Kd.R_reads' HO_11.out).1.symm] <;> rfl) | rfl | (simp only [List.length_drop, List.length_take]; rfl)) ?_; (with_reducible refine (laws_heldIntS.calls kj42 _ _ t210 1 t211 _ ?side1 ?side2 A60.out).mono ?_); (case side1 => exact qC (Kd.R_reads' HO_11.out).2.2); (case side2 => rw [show t210.length = t196.length from (Kd.R_reads' HO_11.out).1.symm]; exact (Kd.R_reads' HO_11.out).2.1); rintro e w' ⟨rfl, ⟨nd, rfl⟩⟩; refine ⟨_, rfl, ?_⟩; have hnb70 := NB181_195.out; have hnc70 := NB195_181.out; have hcz71_0 := cl BK181 0; have hcz71_1 := cl BK181 1; have hfz71_0 := blk_frozen BK181.out 0; have hfz71_1 := blk_frozen BK181.out 1) | ((with_reducible refine gate_callee (f := 6) rfl ?_); refine gs (some 89) Tryd.func6 #[.agg #[.int .i64 a0_0, .slice A0_1 l0_1.length c0_1]] ?_; (with_reducible refine (laws_toLadder.calls kj42 a0_0 _ _ l0_1 t212 t213 _ ?side1 ?side2 A65.out).mono ?_); (case side1 => exact qC (Kd.C_below HR0_1.out (qD HB))); (case side2 => exact HC0_1.out); rintro e w72 ⟨v214, rfl, ho0, hb⟩; refine ⟨_, rfl, ?_⟩; have HO215 := Aside0.mk (Kd.R_lower (Kd.R_new' (Kd.R_new' (Kd.R_new' ho0 (Kd.R_lt (qR HO_8))) (Kd.R_lt (qR HO_11))) (Kd.R_lt (qR HO_196001))) (below_size (qD HB))); replace HO_8 := eR HO_8 ho0 hb; replace HO_11 := eR HO_11 ho0 hb; replace HO_196001 := eR HO_196001 ho0 hb; replace BK181 := uB BK181 hb; replace BK195 := uB BK195 hb; replace HB := uD HB hb; (try clear hb); (try clear hb2); (try clear hk); (try clear hi); (try clear ho0); obtain ⟨Ao73, co73, eo73⟩ := Kd.R_slice HO215.out; subst eo73) | ((with_reducible refine gate_callee (f := 7) rfl ?_); refine gs (some 92) Tryd.func7 #[.agg #[.int .i64 t212, .slice Ao73 t213.length co73], .string a1, .string a2] ?_; (with_reducible refine (impl_StartsFor.calls kj42 t212 _ _ t213 a1 a2 t216 t219 _ ?side1 ?side2 A66.out).mono ?_); (case side1 => exact qC (Kd.R_reads' HO215.out).2.2); (case side2 => exact (Kd.R_reads' HO215.out).2.1); rintro e w74 ⟨v217, rfl, ho0, hb⟩; refine ⟨_, rfl, ?_⟩; have HO218 := Aside0.mk (Kd.R_lower (Kd.R_new' (Kd.R_new' (Kd.R_new' (Kd.R_new' ho0 (Kd.R_lt (qR HO_8))) (Kd.R_lt (qR HO_11))) (Kd.R_lt (qR HO_196001))) (Kd.R_lt (qR HO215))) (below_size (qD HB))); replace HO_8 := eR HO_8 ho0 hb; replace HO_11 := eR HO_11 ho0 hb; replace HO_196001 := eR HO_196001 ho0 hb; replace HO215 := eR HO215 ho0 hb; replace BK181 := uB BK181 hb; replace BK195 := uB BK195 hb; replace HB := uD HB hb; (try clear hb); (try clear hb2); (try clear hk); (try clear hi); (try clear ho0)))
                          (try simp only [Act.put, List.setIfInBounds_toArray, List.set_cons_zero, List.set_cons_succ])
                          go_cut [103] (fun v103 wc => ∃ (kq : Nat) (x103_66 : Bool), v103 = .bool x103_66 ∧ Aside0 (laws_FnExactStartsFor.j2 kq t210 t209 x103_66 = some r) ∧ Aside0 (kq ≤ kj42) ∧ Aside0 (Kd.R (Kd.int .i64) 3 wc w.heap.size (fun k_ => some k_ ≠ ((.slice Ao30 t207.length co30) : Value).ownBlock) (.slice Ao68 t196.length co68) t210) ∧ Aside0 (Kd.R (Kd.int .i64) 3 wc w.heap.size (fun k_ => some k_ ≠ ((.slice Ao68 t196.length co68) : Value).ownBlock) (.slice Ao30 t207.length co30) t207) ∧ Aside0 (wc.heap[gb181]? = some (.cells #[.int .i64 a0_0, (.slice A0_1 l0_1.length c0_1)] 24 (0, 0))) ∧ Aside0 (wc.heap[gb195]? = some (.cells #[.int .i64 t191, (.slice Ao30 t207.length co30)] 28 (0, 0))) ∧ Aside0 (Below w.heap.size w wc))
                          case first =>
                            have H := HC67.out
                            clear HC67
                            replace H := Option.bind_eq_some_iff.mp H
                            obtain ⟨t220, A750, H⟩ := H
                            replace H : (if t220 = true then (laws_FnExactStartsFor.j2 kj42 t210 t209 (t219 != t190)) else (none)) = some r := H
                            have A75 := Aside0.mk A750
                            clear A750
                            by_cases c76 : t220 = true
                            · subst c76
                              have H1 : (laws_FnExactStartsFor.j2 kj42 t210 t209 (t219 != t190)) = some r := by rw [if_pos rfl] at H; exact H
                              clear H
                              have H := H1
                              clear H1
                              have H' := Aside0.mk H
                              clear H
                              obtain ⟨Ao77, co77, eo77⟩ := Kd.R_slice HO218.out
                              subst eo77
                              obtain ⟨Ao78, co78, eo78⟩ := Kd.R_slice HO_8.out
                              subst eo78
                              go_wp2_with (first | ((with_reducible refine gate_callee (f := 8) rfl ?_); refine gs (some 97) Tryd.func8 #[.slice Ao77 t216.length co77, .slice Ao78 t187.length co78] ?_; (with_reducible refine (laws_eqIntS.calls kj42 _ _ t216 _ _ t187 true _ ?side1 ?side2 ?side3 ?side4 A75.out).mono ?_); (case side1 => exact qC (Kd.R_reads' HO218.out).2.2); (case side2 => exact (Kd.R_reads' HO218.out).2.1); (case side3 => exact qC (Kd.R_reads' HO_8.out).2.2); (case side4 => exact (Kd.R_reads' HO_8.out).2.1); rintro e w' ⟨rfl, ⟨nd, rfl⟩⟩; refine ⟨_, rfl, ?_⟩))
                              go_meet
                              case rel => exact ⟨_, ((t219 != t190)), (by first | rfl | (simp; done) | (simp [*]; done) | (simp [bne]; done)), H', ⟨by have := HJ16.out; have := HJ42.out; first | omega | exact Nat.le_refl _⟩, ⟨by (try simp only [hl196001_42]); (with_reducible repeat (first | apply Kd.R_alloc | apply Kd.R_drewN | apply Kd.R_drew)); exact Kd.R_mono HO_11.out (fun _ hk => hk.1.1.2)⟩, ⟨by (try simp only [hl196001_42]); (with_reducible repeat (first | apply Kd.R_alloc | apply Kd.R_drewN | apply Kd.R_drew)); exact Kd.R_mono HO_196001.out (fun _ hk => hk.1.1.2)⟩, ⟨by (try simp only [hl196001_42]); (with_reducible repeat (first | refine blk_drewN ?_ _ | refine blk_drew ?_ | refine blk_alloc ?_ _)); exact BK181.out⟩, ⟨by (try simp only [hl196001_42]); (with_reducible repeat (first | refine blk_drewN ?_ _ | refine blk_drew ?_ | refine blk_alloc ?_ _)); exact BK195.out⟩, ⟨qD HB⟩⟩
                            · replace c76 := Bool.eq_false_iff.mpr c76
                              subst c76
                              have H1 : (none) = some r := by rw [if_neg (show ¬ (false = true) by decide)] at H; exact H
                              exact absurd H1 (by simp)
                          case rest =>
                            clear HC67
                            try clear c1
                            try clear c2
                            try clear p2
                            try clear c3
                            try clear c4
                            try clear c4b0
                            try clear c4b1
                            try clear c5
                            try clear c6
                            try clear c6b0
                            try clear c6b1
                            try clear c7
                            try clear c8
                            try clear c9
                            try clear c9b0
                            try clear c10
                            try clear c11
                            try clear c12
                            try clear c28
                            try clear c33
                            try clear c38
                            try clear c41
                            try clear c48
                            try clear c51
                            try clear c51b0
                            try clear c53
                            try clear c58
                            try clear c61
                            try clear c61b0
                            try clear c64
                            try clear c64b0
                            try clear c64b1
                            try clear c70
                            try clear c76
                            try clear hcz11_0
                            try clear hcz11_1
                            try clear hcz19_0
                            try clear hcz19_1
                            try clear hcz21_0
                            try clear hcz21_1
                            try clear hcz25_0
                            try clear hcz25_1
                            try clear hcz29_0
                            try clear hcz29_1
                            try clear hcz49_0
                            try clear hcz49_1
                            try clear hcz71_0
                            try clear hcz71_1
                            try clear hfz11_0
                            try clear hfz11_1
                            try clear hfz19_0
                            try clear hfz19_1
                            try clear hfz21_0
                            try clear hfz21_1
                            try clear hfz25_0
                            try clear hfz25_1
                            try clear hfz29_0
                            try clear hfz29_1
                            try clear hfz49_0
                            try clear hfz49_1
                            try clear hfz71_0
                            try clear hfz71_1
                            try clear p2
                            obtain ⟨kq, x103_66, rfl, HA, HJ66, HO_11, HO_196001, BK181, BK195, HB⟩ := hcut
                            have hl11_66 := (Kd.R_reads' HO_11.out).1
                            rw [hl11_66] at HO_11
                            (try simp only [hl11_66])
                            (try simp only [hl11_66] at BK181)
                            (try simp only [hl11_66] at BK195)
                            (try simp only [hl11_66] at HO_196001)
                            cases kq with
                            | zero => exact absurd HA.out (by simp [laws_FnExactStartsFor.j2])
                            | succ kj66 =>
                              have H := HA.out
                              clear HA
                              simp only [laws_FnExactStartsFor.j2] at H
                              by_cases c81 : x103_66 = true
                              · subst c81
                                have H1 : (none) = some r := by rw [if_pos rfl] at H; exact H
                                exact absurd H1 (by simp)
                              · replace c81 := Bool.eq_false_iff.mpr c81
                                subst c81
                                have H1 : ((laws_heldIntS.f kj66 t210 1).bind fun t221 => (if t221 < 0 then (none) else (if t221 = t209 then (some true) else (none)))) = some r := by rw [if_neg (show ¬ (false = true) by decide)] at H; exact H
                                clear H
                                have H := H1
                                clear H1
                                replace H := Option.bind_eq_some_iff.mp H
                                obtain ⟨t221, A820, H⟩ := H
                                replace H : (if t221 < 0 then (none) else (if t221 = t209 then (some true) else (none))) = some r := H
                                have A82 := Aside0.mk A820
                                clear A820
                                by_cases c83 : t221 < 0
                                · rw [if_pos c83] at H
                                  exact absurd H (by simp)
                                · rw [if_neg c83] at H
                                  have c83b0 : decide (t221 < 0) = false := decide_eq_false c83
                                  clear c83
                                  by_cases c84 : t221 = t209
                                  · rw [if_pos c84] at H
                                    have c84b0 : (t221 == t209) = true := beq_iff_eq.mpr c84
                                    have c84b1 : (t221 != t209) = false := bne_eq_false_iff_eq.mpr c84
                                    clear c84
                                    obtain rfl := Option.some.inj H
                                    go_wp2_with (first | ((with_reducible refine gate_callee (f := 12) rfl ?_); refine gs (some 106) Tryd.func12 #[.slice Ao68 t210.length co68, .int .i64 1] ?_; (with_reducible refine (laws_heldIntS.calls kj66 _ _ t210 1 t221 _ ?side1 ?side2 A82.out).mono ?_); (case side1 => exact qC (Kd.R_reads' HO_11.out).2.2); (case side2 => exact (Kd.R_reads' HO_11.out).2.1); rintro e w' ⟨rfl, ⟨nd, rfl⟩⟩; refine ⟨_, rfl, ?_⟩))
                                    go_ret
                                    exact ⟨by first | rfl | (simp [errW_none, errW_some] <;> rfl) | (simp [*, errW_none, errW_some] <;> rfl), qD HB⟩
                                  · rw [if_neg c84] at H
                                    exact absurd H (by simp)
                        · rw [if_neg c64] at H
                          exact absurd H (by simp)
              · replace c41 := Bool.eq_false_iff.mpr c41
                subst c41
                have H1 : (none) = some r := by rw [if_neg (show ¬ (false = true) by decide)] at H; exact H
                exact absurd H1 (by simp)
end Go.Proofs.YtcflhinogpcadaaDoor.P
end
section
set_option linter.unusedVariables false
set_option linter.unusedSimpArgs false
namespace Go.Proofs.YtcflhinogpcadaaDoor.P
open Go Go.RowKit Go.Proofs.YtcflhinogpcadaaDoorW.PrintWords Go.Proofs.YtcflhinogpcadaaDoorW.PrintLast Go.Proofs.YtcflhinogpcadaaDoorW.PrintMore

theorem spec_l1In_eq (x lo hi : Int) : spec_l1In.f x lo hi = some (decide (lo ≤ x ∧ x ≤ hi)) := by
  unfold spec_l1In.f
  by_cases h : x ≥ lo
  · rw [if_pos h]; congr 1; by_cases h2 : x ≤ hi <;> simp [h2] <;> omega
  · rw [if_neg h]; congr 1; simp; omega
theorem l1All_loop (l : List Int) (lo hi : Int) (hb : l.length ≤ 9223372036854775807) : ∀ d i : Nat, i + d = l.length → Ev (fun k => spec_l1All.l0 k lo hi l (l.length : Int) (i : Int)) ((l.drop i).all (fun r => decide (lo ≤ r ∧ r ≤ hi))) := by
  intro d
  induction d with
  | zero =>
    intro i hi'
    refine Ev.step (fun k => by rw [spec_l1All.l0]) ?_
    refine Ev.no (by omega) (Ev.ret ?_)
    rw [List.drop_eq_nil_of_le (by omega)]; rfl
  | succ d ih =>
    intro i hi'
    refine Ev.step (fun k => by rw [spec_l1All.l0]) ?_
    have ha : i < l.length := by omega
    refine Ev.yes (by omega) (Ev.yes (by omega) (Ev.yes (by omega) ?_))
    refine Ev.known (spec_l1In_eq _ _ _) ?_
    rw [rd_nat ha, w64i ha hb, List.drop_eq_getElem_cons ha, List.all_cons]
    cases h : decide (lo ≤ l[i] ∧ l[i] ≤ hi)
    · exact Ev.no (by simp) (Ev.ret (by simp))
    · exact Ev.yes rfl (Ev.eq (ih (i + 1) (by omega)) (by simp))
theorem l1All_ev (l : List Int) (lo hi : Int) (hb : l.length ≤ 9223372036854775807) : Ev (fun k => spec_l1All.f k l lo hi) (l.all (fun r => decide (lo ≤ r ∧ r ≤ hi))) := by
  unfold spec_l1All.f
  simpa using l1All_loop l lo hi hb l.length 0 (by omega)
theorem laGood_ev (n : Int) (l : List Int) (hb : l.length ≤ 9223372036854775807) : Ev (fun k => spec_laGood.f k n l) (ladderOk n l) := by
  unfold spec_laGood.f
  refine Ev.known (spec_l1In_eq _ _ _) ?_
  unfold ladderOk
  by_cases h : 2 ≤ n ∧ n ≤ 8
  · refine Ev.yes (by simp [h]) ?_
    by_cases h2 : l.length ≤ 60
    · refine Ev.yes (by omega) ?_
      rw [w64 (by omega) (by omega)]
      exact Ev.bind (l1All_ev l 0 (n - 2) hb) (Ev.ret (by simp [h, h2]))
    · exact Ev.no (by omega) (Ev.ret (by simp [h2]))
  · exact Ev.no (by simp; omega) (Ev.ret (by rw [decide_eq_false h]; rfl))
theorem isLadder_eq (n : Int) (l : List Int) : impl_isLadder.f n l = some (ladderOk n l) := rfl
theorem ladderOk_wires {n : Int} {l : List Int} (h : ladderOk n l = true) : 2 ≤ n ∧ n ≤ 8 := by
  unfold ladderOk at h; simp at h; omega
theorem ladderOk_iff {n : Int} {l : List Int} : ladderOk n l = true ↔ 2 ≤ n ∧ n ≤ 8 ∧ l.length ≤ 60 ∧ ∀ r ∈ l, 0 ≤ r ∧ r ≤ n - 2 := by
  unfold ladderOk; simp [and_assoc]
/-- Where one stands behind a rung. -/
def over (x r : Int) : Int := if x = r then r + 1 else if x = r + 1 then r else x
theorem over_bound {n : Nat} {x r : Int} (h0 : 0 ≤ x) (h1 : x < n) (h2 : 0 ≤ r) (h3 : r + 1 < n) : 0 ≤ over x r ∧ over x r < n := by
  unfold over; split
  · omega
  · split <;> omega
theorem impl_over_eq {x r : Int} (h : 0 ≤ r) (h1 : r ≤ 100000) : impl_over.f x r = some (over x r) := by
  unfold impl_over.f over
  rw [w64 (by omega) (by omega)]
  by_cases a : x = r
  · rw [if_pos a, if_pos a]
  · rw [if_neg a, if_neg a]; by_cases b : x = r + 1
    · rw [if_pos b, if_pos b]
    · rw [if_neg b, if_neg b]
theorem spec_laOver_eq {x r : Int} (h : 0 ≤ r) (h1 : r ≤ 100000) : spec_laOver.f x r = some (over x r) := impl_over_eq h h1
theorem over_over (x r : Int) : over (over x r) r = x := by
  unfold over; (repeat' split) <;> omega
/-- An order of n wires. -/
def isP (n : Nat) (p : List Int) : Prop := p.length = n ∧ p.Nodup ∧ ∀ v, v ∈ p ↔ 0 ≤ v ∧ v < n
theorem isP_over {n : Nat} {p : List Int} {r : Int} (h : isP n p) (h0 : 0 ≤ r) (h1 : r + 1 < n) : isP n (p.map fun x => over x r) := by
  refine ⟨by simp [h.1], ?_, ?_⟩
  · refine List.Pairwise.map _ ?_ h.2.1
    intro a b hab e
    apply hab
    rw [← over_over a r, ← over_over b r, e]
  · intro v
    rw [List.mem_map]
    constructor
    · rintro ⟨y, hy, rfl⟩
      have := (h.2.2 y).1 hy
      exact over_bound this.1 this.2 h0 h1
    · intro hv
      exact ⟨over v r, (h.2.2 _).2 (over_bound hv.1 hv.2 h0 h1), over_over v r⟩
/-- Where everybody ends. -/
def ends (n : Nat) (l : List Int) : List Int := (List.range n).map fun x => l.foldl over ((x : Nat) : Int)
theorem ends_isP0 {n : Nat} : ∀ (l : List Int) (p : List Int), isP n p → (∀ r ∈ l, 0 ≤ r ∧ r + 1 < n) → isP n (p.map fun x => l.foldl over x) := by
  intro l
  induction l with
  | nil => intro p h _; simpa using h
  | cons r l ih =>
    intro p h hl
    have := ih (p.map fun x => over x r) (isP_over h (hl r (by simp)).1 (hl r (by simp)).2) (fun q hq => hl q (by simp [hq]))
    simpa [List.map_map, Function.comp_def] using this
theorem ends_isP {n : Nat} {l : List Int} (hl : ∀ r ∈ l, 0 ≤ r ∧ r + 1 < n) : isP n (ends n l) := by
  have h : isP n ((List.range n).map fun x => ((x : Nat) : Int)) := by
    refine ⟨by simp, ?_, ?_⟩
    · refine List.Pairwise.map _ ?_ (List.nodup_range (n := n))
      intro a b hab e; omega
    · intro v
      rw [List.mem_map]
      constructor
      · rintro ⟨y, hy, rfl⟩; rw [List.mem_range] at hy; omega
      · intro hv; exact ⟨v.toNat, by rw [List.mem_range]; omega, by omega⟩
  have := ends_isP0 l _ h hl
  simpa [ends, List.map_map, Function.comp_def] using this
/-- The places behind each rung. -/
def steps (x : Int) : List Int → List Int
  | [] => []
  | r :: t => over x r :: steps (over x r) t
theorem steps_length (x : Int) (l : List Int) : (steps x l).length = l.length := by
  induction l generalizing x with
  | nil => rfl
  | cons r t ih => simp [steps, ih]
theorem steps_last (x : Int) (l : List Int) : rd (x :: steps x l) (l.length : Nat) = l.foldl over x := by
  rw [rd_nat']
  induction l generalizing x with
  | nil => rfl
  | cons r t ih => rw [steps, List.length_cons, List.getD_cons_succ, ih]; rfl
/-- Rungs of n wires, not too many. -/
def rungsOk (n : Nat) (l : List Int) : Prop := (∀ r ∈ l, 0 ≤ r ∧ r + 1 < n) ∧ l.length ≤ 1000
theorem way_loop (n : Nat) (hn8 : n ≤ 8) (l : List Int) (h : rungsOk n l) : ∀ d i : Nat, i + d = l.length → ∀ (x : Int) (acc : List Int), acc.length ≤ i + 1 →
    Ev (fun k => impl_way.l0 k x acc l (l.length : Int) (i : Int)) (acc ++ steps x (l.drop i)) := by
  have hl := h.2
  intro d
  induction d with
  | zero =>
    intro i hi x acc ha
    refine Ev.step (fun k => by rw [impl_way.l0]) ?_
    refine Ev.no (by omega) (Ev.ret ?_)
    rw [List.drop_eq_nil_of_le (by omega)]; simp [steps]
  | succ d ih =>
    intro i hi x acc ha
    have hi' : i < l.length := by omega
    have hr := h.1 l[i] (List.getElem_mem hi')
    refine Ev.step (fun k => by rw [impl_way.l0]) ?_
    refine Ev.yes (by omega) (Ev.yes (by omega) (Ev.yes (by omega) ?_))
    rw [rd_nat hi', w64i hi' (by omega)]
    refine Ev.known (impl_over_eq (by omega) (by omega)) (Ev.yes (by omega) ?_)
    refine Ev.eq (ih (i + 1) (by omega) _ _ (by simp; omega)) ?_
    rw [List.drop_eq_getElem_cons hi', steps, List.append_assoc]; rfl
theorem way_ev (n : Nat) (hn8 : n ≤ 8) (w : Int) (l : List Int) (h : rungsOk n l) (x : Int) : Ev (fun k => impl_way.f k w l x) (x :: steps x l) := by
  unfold impl_way.f
  simpa using way_loop n hn8 l h l.length 0 (by omega) x [x] (by simp)
theorem result_loop (n : Nat) (hn8 : n ≤ 8) (l : List Int) (h : rungsOk n l) : ∀ d i : Nat, i + d = n →
    Ev (fun k => impl_result.l0 k (n : Int) l ((List.range i).map fun x => l.foldl over ((x : Nat) : Int)) (n : Int) (i : Int)) (ends n l) := by
  have hl := h.2
  intro d
  induction d with
  | zero =>
    intro i hi
    obtain rfl : i = n := by omega
    refine Ev.step (fun k => by rw [impl_result.l0]) ?_
    exact Ev.no (by omega) (Ev.ret rfl)
  | succ d ih =>
    intro i hi
    refine Ev.step (fun k => by rw [impl_result.l0]) ?_
    refine Ev.yes (by omega) (Ev.bind (way_ev n hn8 _ l h _) ?_)
    have e : ((((i : Nat) : Int) :: steps (i : Nat) l).length : Int) = (l.length : Int) + 1 := by simp [steps_length]
    rw [e, w64 (show -9223372036854775808 ≤ (l.length : Int) + 1 - 1 by omega) (by omega)]
    have e2 : (l.length : Int) + 1 - 1 = (l.length : Nat) := by omega
    rw [e2, steps_last, w64i (show i < n by omega) (by omega)]
    refine Ev.yes (by omega) (Ev.yes (by omega) (Ev.yes (by simp; omega) ?_))
    have := ih (i + 1) (by omega)
    rw [List.range_succ, List.map_append] at this
    exact this
theorem result_ev (n : Nat) (hn8 : n ≤ 8) (l : List Int) (h : rungsOk n l) : Ev (fun k => impl_result.f k (n : Int) l) (ends n l) := by
  unfold impl_result.f
  exact result_loop n hn8 l h n 0 (by omega)
theorem down_loop (n : Nat) (hn8 : n ≤ 8) (l : List Int) (h : rungsOk n l) : ∀ d i : Nat, i + d = l.length → ∀ (x : Int) (acc : List Int), acc.length ≤ i + 1 →
    Ev (fun k => spec_laDown.l0 k x acc l (l.length : Int) (i : Int)) (acc ++ steps x (l.drop i)) := by
  have hl := h.2
  intro d
  induction d with
  | zero =>
    intro i hi x acc ha
    refine Ev.step (fun k => by rw [spec_laDown.l0]) ?_
    refine Ev.no (by omega) (Ev.ret ?_)
    rw [List.drop_eq_nil_of_le (by omega)]; simp [steps]
  | succ d ih =>
    intro i hi x acc ha
    have hi' : i < l.length := by omega
    have hr := h.1 l[i] (List.getElem_mem hi')
    refine Ev.step (fun k => by rw [spec_laDown.l0]) ?_
    refine Ev.yes (by omega) (Ev.yes (by omega) (Ev.yes (by omega) ?_))
    rw [rd_nat hi', w64i hi' (by omega)]
    refine Ev.known (spec_laOver_eq (by omega) (by omega)) (Ev.yes (by omega) ?_)
    refine Ev.eq (ih (i + 1) (by omega) _ _ (by simp; omega)) ?_
    rw [List.drop_eq_getElem_cons hi', steps, List.append_assoc]; rfl
theorem down_ev (n : Nat) (hn8 : n ≤ 8) (l : List Int) (h : rungsOk n l) (x : Int) : Ev (fun k => spec_laDown.f k l x) (x :: steps x l) := by
  unfold spec_laDown.f
  simpa using down_loop n hn8 l h l.length 0 (by omega) x [x] (by simp)
theorem laResult_loop (n : Nat) (hn8 : n ≤ 8) (l : List Int) (h : rungsOk n l) : ∀ d i : Nat, i + d = n →
    Ev (fun k => spec_laResult.l0 k (n : Int) l ((List.range i).map fun x => l.foldl over ((x : Nat) : Int)) (i : Int)) (ends n l) := by
  have hl := h.2
  intro d
  induction d with
  | zero =>
    intro i hi
    obtain rfl : i = n := by omega
    refine Ev.step (fun k => by rw [spec_laResult.l0]) ?_
    exact Ev.no (by omega) (Ev.ret rfl)
  | succ d ih =>
    intro i hi
    refine Ev.step (fun k => by rw [spec_laResult.l0]) ?_
    refine Ev.yes (by omega) (Ev.bind (down_ev n hn8 l h _) ?_)
    have e : ((((i : Nat) : Int) :: steps (i : Nat) l).length : Int) = (l.length : Int) + 1 := by simp [steps_length]
    rw [e, steps_last, w64i (show i < n by omega) (by omega)]
    refine Ev.yes (by omega) (Ev.yes (by omega) (Ev.yes (by simp; omega) ?_))
    have := ih (i + 1) (by omega)
    rw [List.range_succ, List.map_append] at this
    exact this
theorem laResult_ev (n : Nat) (hn8 : n ≤ 8) (l : List Int) (h : rungsOk n l) : Ev (fun k => spec_laResult.f k (n : Int) l) (ends n l) := by
  unfold spec_laResult.f
  exact laResult_loop n hn8 l h n 0 (by omega)
theorem ladder_rungs {n : Nat} {l : List Int} (h : ladderOk (n : Int) l = true) : 2 ≤ n ∧ n ≤ 8 ∧ l.length ≤ 60 ∧ rungsOk n l := by
  have := ladderOk_iff.1 h
  refine ⟨by omega, by omega, this.2.2.1, ?_, by omega⟩
  intro r hr
  have := this.2.2.2 r hr; omega
theorem ends_length (n : Nat) (l : List Int) : (ends n l).length = n := by simp [ends]
theorem toLadder_ev (n : Int) (l : List Int) (h : l.length ≤ 1048576) : Ev (fun k => laws_toLadder.f k n l) (n, l) := by
  unfold laws_toLadder.f
  exact Ev.bind (toIntS_ev l (by omega)) (Ev.now _)
theorem eqLadder_ev (n : Int) (l : List Int) (h : l.length ≤ 1048576) : Ev (fun k => laws_eqLadder.f k n l n l) true := by
  unfold laws_eqLadder.f
  refine Ev.yes rfl (Ev.bind (eqIntS_ev l l (by omega)) ?_)
  exact Ev.yes (by simp) (Ev.now _)
theorem markLadder_ev (n : Int) (l : List Int) (a : Int) (h0 : 0 ≤ a) (h1 : a + l.length ≤ 9223372036854775807) : Ev (fun k => laws_markLadder.f k n l a) (a + l.length, ramp a l.length) := by
  unfold laws_markLadder.f
  exact Ev.bind (markIntS_ev l a h0 h1) (Ev.now _)
theorem szLadder_eq (n : Int) (l : List Int) (a : Int) (h0 : 0 ≤ a) (h1 : a ≤ 1048576) (hl : l.length ≤ 9223372036854775807) : laws_szLadder.f n l a = some (if a - l.length < 0 then -1 else a - l.length) := by
  unfold laws_szLadder.f laws_szIntS.f
  rw [w64 (by omega) (by omega)]
  by_cases h : a - (l.length : Int) < 0
  · simp [h]
  · simp [h]
/-- A list that grows by those that are kept. -/
theorem grow_yes {p : Nat → Bool} {i d : Nat} {acc : List Int} (h : p i = true) : (acc ++ [((i : Nat) : Int)]) ++ ((List.range' (i + 1) d).filter p).map (fun r => ((r : Nat) : Int)) = acc ++ ((List.range' i (d + 1)).filter p).map (fun r => ((r : Nat) : Int)) := by
  rw [List.range'_succ, List.filter_cons_of_pos h, List.map_cons, List.append_assoc]; rfl
theorem grow_no {p : Nat → Bool} {i d : Nat} {acc : List Int} (h : ¬ p i = true) : acc ++ ((List.range' (i + 1) d).filter p).map (fun r => ((r : Nat) : Int)) = acc ++ ((List.range' i (d + 1)).filter p).map (fun r => ((r : Nat) : Int)) := by
  rw [List.range'_succ, List.filter_cons_of_neg h]
/-! ### prizes -/
def prizesOk (p : ByteArray) (n : Int) : Bool := decide ((p.size : Int) = n) && p.data.toList.all (fun b => decide (97 ≤ b.toNat ∧ b.toNat ≤ 122))
theorem toList_eq (s : ByteArray) : s.toList = s.data.toList := Lib.toList_data s
theorem bt_nat {s : ByteArray} {j : Nat} (h : j < s.size) : bt s (j : Int) = ((s.data.toList[j]'(by rw [data_length]; exact h)).toNat : Int) := by
  unfold bt
  rw [dif_pos (by simpa using h)]
  rfl
theorem mrPrizes_loop (p : ByteArray) (hp : p.size ≤ 1048576) : ∀ d i : Nat, i + d = p.size → Ev (fun k => spec_mrPrizes.l0 k p (p.size : Int) (i : Int)) ((p.data.toList.drop i).all (fun b => decide (97 ≤ b.toNat ∧ b.toNat ≤ 122))) := by
  have hl : p.data.toList.length = p.size := data_length p
  intro d
  induction d with
  | zero =>
    intro i hi
    refine Ev.step (fun k => by rw [spec_mrPrizes.l0]) (Ev.no (by omega) (Ev.ret ?_))
    rw [List.drop_eq_nil_of_le (by omega)]; rfl
  | succ d ih =>
    intro i hi
    have hd : i < p.data.toList.length := by omega
    refine Ev.step (fun k => by rw [spec_mrPrizes.l0]) (Ev.yes (by omega) (Ev.yes (by omega) (Ev.yes (by omega) ?_)))
    rw [bt_nat (by omega), w64i (n := p.size) (by omega) (by omega), List.drop_eq_getElem_cons hd, List.all_cons]
    generalize p.data.toList[i] = b
    by_cases c1 : (b.toNat : Int) < 97
    · refine Ev.yes c1 (Ev.ret ?_)
      have : decide (97 ≤ b.toNat ∧ b.toNat ≤ 122) = false := by simp; omega
      rw [this, Bool.false_and]
    · refine Ev.no c1 ?_
      by_cases c2 : (b.toNat : Int) > 122
      · refine Ev.yes c2 (Ev.ret ?_)
        have : decide (97 ≤ b.toNat ∧ b.toNat ≤ 122) = false := by simp; omega
        rw [this, Bool.false_and]
      · refine Ev.no c2 (Ev.eq (ih (i + 1) (by omega)) ?_)
        have : decide (97 ≤ b.toNat ∧ b.toNat ≤ 122) = true := by simp; omega
        rw [this, Bool.true_and]
theorem mrPrizes_ev (p : ByteArray) (hp : p.size ≤ 1048576) (n : Int) : Ev (fun k => spec_mrPrizes.f k p n) (prizesOk p n) := by
  unfold spec_mrPrizes.f prizesOk
  by_cases h : (p.size : Int) = n
  · subst h
    refine Ev.yes rfl (Ev.eq (mrPrizes_loop p hp p.size 0 (by omega)) ?_)
    simp
  · refine Ev.no h (Ev.ret ?_)
    rw [decide_eq_false h, Bool.false_and]
def letters : List UInt8 := [97, 98, 99, 100, 101, 102, 103, 104, 105, 106, 107, 108, 109, 110, 111, 112, 113, 114, 115, 116, 117, 118, 119, 120, 121, 122]
theorem letters_fin : ∀ n : Fin 256, letters.contains (UInt8.ofNat n.val) = decide (97 ≤ n.val ∧ n.val ≤ 122) := by decide +kernel
theorem letters_iff (b : UInt8) : letters.contains b = decide (97 ≤ b.toNat ∧ b.toNat ≤ 122) := by
  have := letters_fin ⟨b.toNat, b.toNat_lt⟩
  simpa using this
theorem dropWhile_nil {α : Type} (f : α → Bool) : ∀ l : List α, l.dropWhile f = [] ↔ l.all f = true
  | [] => by simp
  | x :: l => by
    rw [List.dropWhile_cons, List.all_cons]
    by_cases h : f x = true
    · rw [if_pos h, dropWhile_nil f l]; simp [h]
    · rw [if_neg h]; simp [h]
theorem trim_nil (l cs : List UInt8) : Lib.trimS l cs = [] ↔ l.all (fun b => cs.contains b) = true := by
  unfold Lib.trimS Lib.trimLeftS Lib.trimRightS
  rw [dropWhile_nil, List.all_reverse]
  constructor
  · intro h
    have h2 : l.reverse.dropWhile (fun x => cs.contains x) = [] := by
      cases e : l.reverse.dropWhile (fun x => cs.contains x) with
      | nil => rfl
      | cons y t =>
        have h3 := List.head?_dropWhile_not (fun x => cs.contains x) l.reverse
        rw [e] at h3 h
        simp at h3 h
        exact absurd h.1 h3
    rw [dropWhile_nil, List.all_reverse] at h2
    exact h2
  · intro h
    have h2 : l.reverse.dropWhile (fun x => cs.contains x) = [] := by rw [dropWhile_nil, List.all_reverse]; exact h
    rw [h2]; rfl
theorem arePrizes_eq (p : ByteArray) (hp : p.size ≤ 1048576) (n : Int) : impl_arePrizes.f p n = some (prizesOk p n) := by
  unfold impl_arePrizes.f prizesOk
  by_cases h : (p.size : Int) = n
  · rw [if_pos h, decide_eq_true h, Bool.true_and]
    have e : strings_Trim.f p (⟨#[97, 98, 99, 100, 101, 102, 103, 104, 105, 106, 107, 108, 109, 110, 111, 112, 113, 114, 115, 116, 117, 118, 119, 120, 121, 122]⟩ : ByteArray) = some ⟨(Lib.trimS p.data.toList letters).toArray⟩ := by
      unfold strings_Trim.f
      rw [if_pos (by omega), if_pos (by decide)]
      rfl
    rw [e, Option.bind_some]
    congr 1
    rw [toList_eq]
    show (Lib.trimS p.data.toList letters == []) = _
    rw [Bool.eq_iff_iff, beq_iff_eq, trim_nil]
    simp only [letters_iff]
  · rw [if_neg h, decide_eq_false h, Bool.false_and]
/-- The prizes of all starts, as numbers. -/
def giv (n : Nat) (l : List Int) (p : ByteArray) : List Int := (ends n l).map fun e => bt p e
theorem ends_in {n : Nat} {l : List Int} (h : rungsOk n l) {j : Nat} (hj : j < (ends n l).length) : 0 ≤ (ends n l)[j] ∧ (ends n l)[j] < (n : Int) :=
  ((ends_isP (n := n) (l := l) h.1).2.2 _).1 (List.getElem_mem hj)
theorem strOf_snoc (xs : List Int) (x : Int) : strOfNums (xs ++ [x]) = strOfNums xs ++ strOfNums [x] := by
  apply ByteArray.ext
  simp [strOfNums, ByteArray.data_append]
theorem strOf_size (xs : List Int) : (strOfNums xs).size = xs.length := by simp [strOfNums, ByteArray.size]
theorem prizesOf_loop (n : Nat) (hn8 : n ≤ 8) (l : List Int) (h : rungsOk n l) (p : ByteArray) (hp : p.size = n) : ∀ d i : Nat, i + d = n →
    Ev (fun k => impl_prizesOf.l0 k p ((giv n l p).take i) (ends n l) ((ends n l).length : Int) (i : Int)) (strOfNums (giv n l p)) := by
  have hel := ends_length n l
  intro d
  induction d with
  | zero =>
    intro i hi
    refine Ev.step (fun k => by rw [impl_prizesOf.l0]) (Ev.no (by omega) (Ev.ret ?_))
    rw [List.take_of_length_le (by simp [giv, hel]; omega)]
  | succ d ih =>
    intro i hi
    have hd : i < (ends n l).length := by omega
    have hb := ends_in h hd
    refine Ev.step (fun k => by rw [impl_prizesOf.l0]) (Ev.yes (by omega) (Ev.yes (by omega) (Ev.yes (by omega) ?_)))
    rw [rd_nat hd]
    refine Ev.yes hb.1 (Ev.yes (by omega) (Ev.yes (by simp [giv]; omega) ?_))
    rw [w64i hd (by omega)]
    have e : (giv n l p).take i ++ [bt p (ends n l)[i]] = (giv n l p).take (i + 1) := by
      have := take_map_snoc (fun e => bt p e) hd
      rw [List.map_take, List.map_take] at this
      exact this
    rw [e]
    exact ih (i + 1) (by omega)
theorem prizesOf_ev (n : Nat) (hn8 : n ≤ 8) (l : List Int) (h : rungsOk n l) (p : ByteArray) (hp : p.size = n) : Ev (fun k => impl_prizesOf.f k (n : Int) l p) (strOfNums (giv n l p)) := by
  unfold impl_prizesOf.f
  refine Ev.bind (result_ev n hn8 l h) ?_
  simpa using prizesOf_loop n hn8 l h p hp n 0 (by omega)
theorem extract_one {p : ByteArray} {e : Nat} (he : e < p.size) : p.extract e (e + 1) = strOfNums [bt p (e : Int)] := by
  apply ByteArray.ext
  have h1 : e < p.data.size := he
  rw [ByteArray.data_extract]
  apply Array.ext'
  rw [Array.toList_extract, bt_nat he]
  simp only [strOfNums, List.map_cons, List.map_nil, Int.toNat_natCast, UInt8.ofNat_toNat]
  have h2 : e < p.data.toList.length := by simpa using h1
  rw [List.extract_eq_take_drop]
  rw [List.drop_eq_getElem_cons h2]
  have : e + 1 - e = 1 := by omega
  rw [this]
  simp
theorem mrGiven_loop (n : Nat) (hn8 : n ≤ 8) (l : List Int) (h : rungsOk n l) (p : ByteArray) (hp : p.size = n) : ∀ d i : Nat, i + d = n →
    Ev (fun k => spec_mrGiven.l0 k p (strOfNums ((giv n l p).take i)) (ends n l) ((ends n l).length : Int) (i : Int)) (strOfNums (giv n l p)) := by
  have hel := ends_length n l
  intro d
  induction d with
  | zero =>
    intro i hi
    refine Ev.step (fun k => by rw [spec_mrGiven.l0]) (Ev.no (by omega) (Ev.ret ?_))
    rw [List.take_of_length_le (by simp [giv, hel]; omega)]
  | succ d ih =>
    intro i hi
    have hd : i < (ends n l).length := by omega
    have hb := ends_in h hd
    refine Ev.step (fun k => by rw [spec_mrGiven.l0]) (Ev.yes (by omega) (Ev.yes (by omega) (Ev.yes (by omega) ?_)))
    rw [rd_nat hd]
    obtain ⟨e, he⟩ : ∃ e : Nat, (ends n l)[i] = (e : Int) := ⟨((ends n l)[i]).toNat, by omega⟩
    rw [he] at hb ⊢
    have hw : wrap64 ((e : Int) + 1) = ((e + 1 : Nat) : Int) := w64i (n := n) (by omega) (by omega)
    rw [hw, Int.toNat_natCast, Int.toNat_natCast, extract_one (by omega)]
    refine Ev.yes (by omega) (Ev.yes (by omega) (Ev.yes (by omega) (Ev.yes (by rw [strOf_size, strOf_size]; simp [giv, hel]; omega) ?_)))
    rw [w64i hd (by omega), ← strOf_snoc]
    have e2 : (giv n l p).take i ++ [bt p (e : Int)] = (giv n l p).take (i + 1) := by
      have := take_map_snoc (fun e => bt p e) hd
      rw [List.map_take, List.map_take, he] at this
      exact this
    rw [e2]
    exact ih (i + 1) (by omega)
theorem mrGiven_ev (n : Nat) (hn8 : n ≤ 8) (l : List Int) (h : rungsOk n l) (p : ByteArray) (hp : p.size = n) : Ev (fun k => spec_mrGiven.f k (n : Int) l p) (strOfNums (giv n l p)) := by
  unfold spec_mrGiven.f
  refine Ev.bind (laResult_ev n hn8 l h) ?_
  have := mrGiven_loop n hn8 l h p hp n 0 (by omega)
  simpa [strOfNums] using this
/-- The starts that come to a prize. -/
def startsAt (g : List Int) (c : Int) : List Int := ((List.range' 0 g.length).filter fun j => decide (g.getD j 0 = c)).map fun j => ((j : Nat) : Int)
theorem giv_in {n : Nat} {l : List Int} {p : ByteArray} (h : rungsOk n l) (hp : p.size = n) (ha : prizesOk p (n : Int) = true) {x : Int} (hx : x ∈ giv n l p) : 97 ≤ x ∧ x ≤ 122 := by
  obtain ⟨e, he, rfl⟩ := List.mem_map.1 hx
  obtain ⟨j, hj, rfl⟩ := List.getElem_of_mem he
  have hb := ends_in h hj
  unfold prizesOk at ha
  rw [Bool.and_eq_true, List.all_eq_true] at ha
  obtain ⟨e, he⟩ : ∃ e : Nat, (ends n l)[j] = (e : Int) := ⟨((ends n l)[j]).toNat, by omega⟩
  rw [he, bt_nat (by omega)]
  have := of_decide_eq_true (ha.2 _ (List.getElem_mem (l := p.data.toList) (n := e) (by rw [data_length]; omega)))
  omega
theorem bytes_back {xs : List Int} (h : ∀ x ∈ xs, 97 ≤ x ∧ x ≤ 122) : bytesOf (strOfNums xs) = xs := by
  unfold bytesOf strOfNums
  rw [List.map_map]
  have : ∀ x ∈ xs, ((fun b : UInt8 => (b.toNat : Int)) ∘ fun n : Int => UInt8.ofNat n.toNat) x = x := by
    intro x hx
    have := h x hx
    simp only [Function.comp, UInt8.toNat_ofNat']
    omega
  rw [List.map_congr_left this, List.map_id']
theorem ascii_str {xs : List Int} (h : ∀ x ∈ xs, 97 ≤ x ∧ x ≤ 122) (hl : xs.length ≤ 1000) : shortAscii (strOfNums xs) = true := by
  unfold shortAscii
  rw [Bool.and_eq_true, List.all_eq_true]
  refine ⟨fun b hb => ?_, by rw [strOf_size]; simpa using hl⟩
  have hb' : b ∈ xs.map fun n => UInt8.ofNat n.toNat := by simpa [strOfNums] using hb
  obtain ⟨x, hx, rfl⟩ := List.mem_map.1 hb'
  have := h x hx
  simp only [UInt8.toNat_ofNat', decide_eq_true_eq]
  omega
theorem implStarts_loop (g : List Int) (hg : g.length ≤ 8) (q : ByteArray) (hq : 0 < q.size) : ∀ d i : Nat, i + d = g.length → ∀ acc : List Int, acc.length ≤ i →
    Ev (fun k => impl_StartsFor.l0 k q acc g (g.length : Int) (i : Int)) (acc ++ ((List.range' i d).filter fun j => decide (g.getD j 0 = bt q 0)).map fun j => ((j : Nat) : Int), true) := by
  intro d
  induction d with
  | zero =>
    intro i hi acc ha
    exact Ev.step (fun k => by rw [impl_StartsFor.l0]) (Ev.no (by omega) (Ev.ret (by simp)))
  | succ d ih =>
    intro i hi acc ha
    have hd : i < g.length := by omega
    refine Ev.step (fun k => by rw [impl_StartsFor.l0]) (Ev.yes (by omega) (Ev.yes (by omega) (Ev.yes (by omega) (Ev.yes (by omega) ?_))))
    rw [rd_nat', w64i hd (by omega)]
    by_cases c : g.getD i 0 = bt q 0
    · refine Ev.yes c (Ev.yes (by omega) (Ev.eq (ih (i + 1) (by omega) _ (by simp; omega)) ?_))
      rw [grow_yes (p := fun j => decide (g.getD j 0 = bt q 0)) (by simpa using c)]
    · refine Ev.no c (Ev.eq (ih (i + 1) (by omega) _ (by omega)) ?_)
      rw [grow_no (p := fun j => decide (g.getD j 0 = bt q 0)) (by simpa using c)]
theorem implStarts_j0 (n : Nat) (hn8 : n ≤ 8) (l : List Int) (h : rungsOk n l) (p q : ByteArray) (hp : p.size = n) (ha : prizesOk p (n : Int) = true) (hq : 0 < q.size) :
    Ev (fun k => impl_StartsFor.j0 k p q false (n : Int) l) (startsAt (giv n l p) (bt q 0), true) := by
  have hgl : (giv n l p).length = n := by simp [giv, ends_length]
  refine Ev.step (fun k => by rw [impl_StartsFor.j0]) (Ev.no (by simp) (Ev.bind (prizesOf_ev n hn8 l h p hp) ?_))
  have e : convBytes (strOfNums (giv n l p)) = some (giv n l p) := by
    unfold convBytes
    rw [if_pos (by rw [strOf_size]; omega), bytes_back (fun x hx => giv_in h hp ha hx)]
  refine Ev.known e ?_
  have := implStarts_loop (giv n l p) (by omega) q hq n 0 (by omega) [] (by simp)
  refine Ev.eq this ?_
  simp [startsAt, hgl]
theorem specStarts_loop (g : List Int) (hg : g.length ≤ 8) (hin : ∀ x ∈ g, 97 ≤ x ∧ x ≤ 122) (q : ByteArray) (hq : q.size = 1) : ∀ d i : Nat, i + d = g.length → ∀ acc : List Int, acc.length ≤ i →
    Ev (fun k => spec_StartsFor.l0 k q acc (strOfNums g) (i : Int)) (acc ++ ((List.range' i d).filter fun j => decide (g.getD j 0 = bt q 0)).map fun j => ((j : Nat) : Int), true) := by
  have hs := strOf_size g
  have hql : q.data.toList.length = 1 := by rw [data_length]; exact hq
  intro d
  induction d with
  | zero =>
    intro i hi acc ha
    exact Ev.step (fun k => by rw [spec_StartsFor.l0]) (Ev.no (by omega) (Ev.ret (by simp)))
  | succ d ih =>
    intro i hi acc ha
    have hd : i < g.length := by omega
    have hw : wrap64 ((i : Int) + 1) = ((i + 1 : Nat) : Int) := w64i hd (by omega)
    refine Ev.step (fun k => by rw [spec_StartsFor.l0]) ?_
    rw [hw, Int.toNat_natCast, Int.toNat_natCast]
    refine Ev.yes (by omega) (Ev.yes (by omega) (Ev.yes (by omega) (Ev.yes (by omega) ?_)))
    have hbt : bt (strOfNums g) (i : Int) = g[i] := by
      have h1 := rd_bytesOf (strOfNums g) (i : Int)
      rw [bytes_back hin, rd_nat hd] at h1
      exact h1.symm
    have e1 : ((strOfNums g).extract i (i + 1)).toList = [UInt8.ofNat (g[i]).toNat] := by
      rw [extract_one (by omega), toList_eq, hbt]
      rfl
    have e2 : q.toList = [q.data.toList[0]] := by
      rw [toList_eq]
      apply List.ext_getElem (by simpa using hql)
      intro j h1 h2
      have : j = 0 := by simp at h2; omega
      subst this
      rfl
    have hgi : g.getD i 0 = g[i] := by simp [hd]
    have hb0 := bt_nat (s := q) (j := 0) (by omega)
    have hlt := (q.data.toList[0]).toNat_lt
    have hr := hin g[i] (List.getElem_mem hd)
    have iff_ : ((strOfNums g).extract i (i + 1)).toList = q.toList ↔ g.getD i 0 = bt q 0 := by
      rw [e1, e2, hgi]
      have hb0' : bt q 0 = ((q.data.toList[0]).toNat : Int) := hb0
      rw [hb0', List.cons.injEq, and_iff_left rfl]
      constructor
      · intro e
        have := congrArg UInt8.toNat e
        simp only [UInt8.toNat_ofNat'] at this
        omega
      · intro e
        rw [e, Int.toNat_natCast, UInt8.ofNat_toNat]
    by_cases c : g.getD i 0 = bt q 0
    · refine Ev.yes (iff_.2 c) (Ev.yes (by omega) (Ev.eq (ih (i + 1) (by omega) _ (by simp; omega)) ?_))
      rw [grow_yes (p := fun j => decide (g.getD j 0 = bt q 0)) (by simpa using c)]
    · refine Ev.no (fun z => c (iff_.1 z)) (Ev.eq (ih (i + 1) (by omega) _ (by omega)) ?_)
      rw [grow_no (p := fun j => decide (g.getD j 0 = bt q 0)) (by simpa using c)]
theorem specStarts_j0 (n : Nat) (hn8 : n ≤ 8) (l : List Int) (h : rungsOk n l) (p q : ByteArray) (hp : p.size = n) (ha : prizesOk p (n : Int) = true) (hq : q.size = 1) :
    Ev (fun k => spec_StartsFor.j0 k p q false (n : Int) l) (startsAt (giv n l p) (bt q 0), true) := by
  have hgl : (giv n l p).length = n := by simp [giv, ends_length]
  have hin : ∀ x ∈ giv n l p, 97 ≤ x ∧ x ≤ 122 := fun x hx => giv_in h hp ha hx
  refine Ev.step (fun k => by rw [spec_StartsFor.j0]) (Ev.no (by simp) (Ev.bind (mrGiven_ev n hn8 l h p hp) ?_))
  refine Ev.yes (ascii_str hin (by omega)) ?_
  have := specStarts_loop (giv n l p) (by omega) hin q hq n 0 (by omega) [] (by simp)
  refine Ev.eq this ?_
  simp [startsAt, hgl]
def startsIf (n : Int) (l : List Int) (p q : ByteArray) : List Int × Bool :=
  if ladderOk n l = true ∧ prizesOk p n = true ∧ prizesOk q 1 = true then (startsAt (giv n.toNat l p) (bt q 0), true) else ([], false)
theorem prizes_size {p : ByteArray} {n : Int} (h : prizesOk p n = true) : (p.size : Int) = n := by
  unfold prizesOk at h
  rw [Bool.and_eq_true] at h
  exact of_decide_eq_true h.1
theorem specStarts_ev (n : Int) (l : List Int) (p q : ByteArray) (hl : l.length ≤ 1048576) (hp : p.size ≤ 1048576) (hq : q.size ≤ 1048576) : Ev (fun k => spec_StartsFor.f k n l p q) (startsIf n l p q) := by
  have no : ∀ a b c d, Ev (fun k => spec_StartsFor.j0 k a b true c d) (([] : List Int), false) := fun a b c d => Ev.step (fun k => by rw [spec_StartsFor.j0]) (Ev.yes rfl (Ev.now _))
  unfold spec_StartsFor.f startsIf
  refine Ev.bind (laGood_ev n l (by omega)) ?_
  by_cases a : ladderOk n l = true
  · refine Ev.yes a (Ev.bind (mrPrizes_ev p hp n) ?_)
    by_cases b : prizesOk p n = true
    · refine Ev.yes b (Ev.bind (mrPrizes_ev q hq 1) ?_)
      by_cases c : prizesOk q 1 = true
      · rw [if_pos ⟨a, b, c⟩, c]
        have hw := ladderOk_wires a
        obtain ⟨m, rfl⟩ : ∃ m : Nat, n = (m : Int) := ⟨n.toNat, by omega⟩
        have hr := ladder_rungs a
        have h1 := prizes_size b
        have h2 := prizes_size c
        exact specStarts_j0 m hr.2.1 l hr.2.2.2 p q (by omega) b (by omega)
      · rw [if_neg (fun z => c z.2.2), Bool.eq_false_iff.2 c]
        exact no _ _ _ _
    · rw [if_neg (fun z => b z.2.1)]
      exact Ev.no b (no _ _ _ _)
  · rw [if_neg (fun z => a z.1)]
    exact Ev.no a (no _ _ _ _)
theorem implStarts_ev (n : Int) (l : List Int) (p q : ByteArray) (hp : p.size ≤ 1048576) (hq : q.size ≤ 1048576) : Ev (fun k => impl_StartsFor.f k n l p q) (startsIf n l p q) := by
  have no : ∀ a b c d, Ev (fun k => impl_StartsFor.j0 k a b true c d) (([] : List Int), false) := fun a b c d => Ev.step (fun k => by rw [impl_StartsFor.j0]) (Ev.yes rfl (Ev.now _))
  unfold impl_StartsFor.f startsIf
  refine Ev.known (isLadder_eq n l) ?_
  by_cases a : ladderOk n l = true
  · refine Ev.yes a (Ev.known (arePrizes_eq p hp n) ?_)
    by_cases b : prizesOk p n = true
    · refine Ev.yes b (Ev.known (arePrizes_eq q hq 1) ?_)
      by_cases c : prizesOk q 1 = true
      · rw [if_pos ⟨a, b, c⟩, c]
        have hw := ladderOk_wires a
        obtain ⟨m, rfl⟩ : ∃ m : Nat, n = (m : Int) := ⟨n.toNat, by omega⟩
        have hr := ladder_rungs a
        have h1 := prizes_size b
        have h2 := prizes_size c
        exact implStarts_j0 m hr.2.1 l hr.2.2.2 p q (by omega) b (by omega)
      · rw [if_neg (fun z => c z.2.2), Bool.eq_false_iff.2 c]
        exact no _ _ _ _
    · rw [if_neg (fun z => b z.2.1)]
      exact Ev.no b (no _ _ _ _)
  · rw [if_neg (fun z => a z.1)]
    exact Ev.no a (no _ _ _ _)
theorem startsIf_len (n : Int) (l : List Int) (p q : ByteArray) : (startsIf n l p q).1.length ≤ 1000 := by
  unfold startsIf
  split
  · rename_i h
    have hw := ladderOk_wires h.1
    have h1 : (startsAt (giv n.toNat l p) (bt q 0)).length ≤ n.toNat := by
      unfold startsAt
      rw [List.length_map]
      refine Nat.le_trans (List.length_filter_le _ _) ?_
      simp [giv, ends_length]
    show (startsAt (giv n.toNat l p) (bt q 0)).length ≤ 1000
    omega
  · simp
/-! ### the law -/
theorem startsLaw_j2 (m : Nat) (hm : m ≤ 1000) (x : Int) (hx : x = 1 + m) (b : Bool) (hb : b = false) : Ev (fun k => laws_FnExactStartsFor.j2 k (ramp 1 m) x b) true := by
  refine Ev.step (fun k => by rw [laws_FnExactStartsFor.j2]) (Ev.no (by simp [hb]) (Ev.bind (heldIntS_ev 1 m (by omega) (by omega)) ?_))
  exact Ev.no (by omega) (Ev.yes (by omega) (Ev.now _))
theorem startsLaw_j1 (n : Int) (l : List Int) (p q : ByteArray) (hl : l.length ≤ 1048576) (hp : p.size ≤ 1048576) (hq : q.size ≤ 1048576) (b : Bool) (hb : b = false) :
    Ev (fun k => laws_FnExactStartsFor.j1 k p q (startsIf n l p q).1 (startsIf n l p q).2 (startsIf n l p q).1 b n l) true := by
  have hs := startsIf_len n l p q
  refine Ev.step (fun k => by rw [laws_FnExactStartsFor.j1]) (Ev.no (by simp [hb]) (Ev.bind (markIntS_ev _ 1 (by omega) (by omega)) (Ev.bind (heldIntS_ev 1 (startsIf n l p q).1.length (by omega) (by omega)) ?_)))
  refine Ev.no (by omega) (Ev.yes rfl (Ev.bind (toLadder_ev n l hl) (Ev.bind (implStarts_ev n l p q hp hq) (Ev.bind (eqIntS_ev _ _ (by omega)) ?_))))
  exact Ev.yes (by simp) (startsLaw_j2 _ hs _ rfl _ (by simp))
theorem startsLaw_j0 (n : Int) (l : List Int) (p q : ByteArray) (hl : l.length ≤ 1048576) (hp : p.size ≤ 1048576) (hq : q.size ≤ 1048576) (b : Bool) (hb : b = false) :
    Ev (fun k => laws_FnExactStartsFor.j0 k p q (startsIf n l p q).1 (startsIf n l p q).2 (startsIf n l p q).1 (startsIf n l p q).2 b n l n l) true := by
  have hs := startsIf_len n l p q
  refine Ev.step (fun k => by rw [laws_FnExactStartsFor.j0]) (Ev.no (by simp [hb]) (Ev.bind (toLadder_ev n l hl) (Ev.bind (eqLadder_ev n l hl) (Ev.yes rfl ?_))))
  refine Ev.bind (markLadder_ev n l 1 (by omega) (by omega)) (Ev.no (by show ¬ ((1 : Int) + _ < 0); omega) (Ev.bind (eqIntS_ev _ _ (by omega)) (Ev.yes (by simp) ?_)))
  exact startsLaw_j1 n l p q hl hp hq _ (by simp)
theorem startsLaw (n : Int) (l : List Int) (p q : ByteArray) (hl : l.length ≤ 9223372036854775807) : ∃ k, laws_FnExactStartsFor.f k n l p q = some true := by
  refine Ev.rounds (g := fun k => laws_FnExactStartsFor.f k n l p q) ?_
  unfold laws_FnExactStartsFor.f
  by_cases a : (p.size : Int) > 1048576
  · exact Ev.yes a (Ev.now _)
  · refine Ev.no a ?_
    by_cases b : (q.size : Int) > 1048576
    · exact Ev.yes b (Ev.now _)
    · refine Ev.no b (Ev.known (szLadder_eq n l 1048576 (by omega) (by omega) hl) ?_)
      by_cases c : (1048576 : Int) - l.length < 0
      · rw [if_pos c]; exact Ev.yes (by omega) (Ev.now _)
      · rw [if_neg c]
        have h1 : l.length ≤ 1048576 := by omega
        have hs := startsIf_len n l p q
        refine Ev.no c (Ev.bind (toLadder_ev n l h1) (Ev.bind (specStarts_ev n l p q h1 (by omega) (by omega)) (Ev.bind (toLadder_ev n l h1) ?_)))
        refine Ev.bind (implStarts_ev n l p q (by omega) (by omega)) (Ev.bind (eqIntS_ev _ _ (by omega)) (Ev.yes (by simp) ?_))
        exact startsLaw_j0 n l p q h1 (by omega) (by omega) _ (by simp)
end Go.Proofs.YtcflhinogpcadaaDoor.P
end
