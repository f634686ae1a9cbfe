-- Put together by wip/merge.py (a program of this session's) out of this claim's texts; Lean checks it.
import Derived.Test.YtcflhinogpcadaaDoorG22
import Derived.Test.YtcflhinogpcadaaDoorG23
import Derived.Test.YtcflhinogpcadaaDoorG24
import Derived.Laws.RangeString
section
namespace Go.Proofs.YtcflhinogpcadaaDoor.P
open Go.RowKit Go.Proofs.YtcflhinogpcadaaDoorW.PrintWords Go.Proofs.YtcflhinogpcadaaDoorW.PrintLast Go.Proofs.YtcflhinogpcadaaDoorW.PrintMore
attribute [local go_sem] max2_int min2_int max_two min_two max_three min_three max_four min_four   -- for this text's walks alone
set_option linter.unusedVariables false
set_option linter.unusedSimpArgs false

/-! ### spec_StartsFor: function 5 -/
/-- A short text of ASCII letters alone. -/
def shortAscii (s : ByteArray) : Bool := s.data.toList.all (fun b => decide (b.toNat < 128)) && decide (s.size ≤ 1000)
theorem shortAscii.at_ {s : ByteArray} (h : shortAscii s = true) {j : Nat} (hj : j < s.size) : (s[j]'hj).toNat < 128 := by
  unfold shortAscii at h
  rw [Bool.and_eq_true, List.all_eq_true] at h
  have h1 : decide ((s.data[j]'hj).toNat < 128) = true := h.1 (s.data[j]'hj) (by simp)
  exact of_decide_eq_true h1
theorem shortAscii.next_ {P : Program} {w : World} {g : Nat} {s : ByteArray} {x : Int} (hs : shortAscii s = true) (h : w.heap[g]? = some (.stringIter s x.toNat)) (h0 : 0 ≤ x) (h1 : x < (s.size : Int)) :
    ∃ (c : Int) (w1 : World), (∀ ty, (Instr.next (.pointer (some ⟨g, 0, none⟩)) true ty).run P w = .ok (.tuple #[.bool true, .int .i64 x, .int .i32 c]) w1) ∧ w1.heap[g]? = some (.stringIter s (x.toNat + 1)) ∧ w.grownBy w1 (some g) := by
  have hlt : x.toNat < s.size := by omega
  have hg : g < w.heap.size := (Array.getElem?_eq_some_iff.1 h).1
  have hx : ((x.toNat : Nat) : Int) = x := by omega
  refine ⟨((s[x.toNat]'hlt).toNat : Nat), { w with heap := w.heap.setIfInBounds g (.stringIter s (x.toNat + 1)) }, fun ty => ?_, ?_, ⟨rfl, rfl, rfl, ?_, ?_⟩⟩
  · simp [Instr.next, getObj, setObj, Sem.run_bind, Sem.run, h, Result.andThen, hlt, decode_ascii s x.toNat hlt (shortAscii.at_ hs hlt), goInt, hx]
  · simp [hg]
  · simp
  · intro k hk hne
    have : g ≠ k := fun e => hne (by rw [e])
    simp [this]
theorem shortAscii.end_ {P : Program} {w : World} {g : Nat} {s : ByteArray} {x : Int} (h : w.heap[g]? = some (.stringIter s x.toNat)) (h1 : ¬ x < (s.size : Int)) :
    ∀ ty, (Instr.next (.pointer (some ⟨g, 0, none⟩)) true ty).run P w = .ok (.tuple #[.bool false]) w := by
  intro ty
  have hlt : ¬ x.toNat < s.size := by omega
  simp [Instr.next, getObj, Sem.run, h, hlt]
theorem shortAscii.wp {P : Program} {W : World} {ops : Array Oper} {rest : List Oper} {o : Oper} {a : Act} {Q : Exit → Act → World → Prop} (hg : o.guard = none) (t : TypeId) (x : Operand) (hop : o.op = Op.range t x)
    (s : ByteArray) (hx : a.eval x = .string s) (ht : P.underlying t = some .string)
    (h : ∀ (g : Nat) (w1 : World), W.heap.size ≤ g → g < w1.heap.size → w1.heap[g]? = some (.stringIter s 0) → Below W.heap.size W w1 → wpList P ops Q rest (a.put o.dst (.pointer (some ⟨g, 0, none⟩))) w1) :
    wpList P ops Q (o :: rest) a W := by
  refine wpList_plain hg fun K' hK' => ?_
  unfold Oper.wp
  have hh := h W.heap.size (W.iter s 0) (Nat.le_refl _) (by show W.heap.size < (W.heap.push _).size; simp) (World.iter_heap W s 0) (below_alloc (Below.refl _ _) _)
  simp [execOp, hop, hx, run_range_string W t s ht, Result.andThen]
  exact hK' _ _ hh
mutual
def spec_StartsFor.j0 : Nat → ByteArray → ByteArray → Bool → Int → List Int → Option (List Int × Bool)
  | 0, _, _, _, _, _ => none
  | k + 1, x1, x2, x25, x129000, x129001 => if x25 = true then (some (([] : List Int), false)) else ((spec_mrGiven.f k x129000 x129001 x1).bind fun t132 => (if shortAscii t132 = true then (spec_StartsFor.l0 k x2 ([] : List Int) t132 0) else none))
def spec_StartsFor.l0 : Nat → ByteArray → List Int → ByteArray → Int → Option (List Int × Bool)
  | 0, _, _, _, _ => none
  | k + 1, x2, x8, x9, x30 => if x30 < (x9.size : Int) then (if 0 ≤ x30 then (if x30 ≤ (wrap64 (x30 + 1)) then (if (wrap64 (x30 + 1)) ≤ (x9.size : Int) then (if (x9.extract (x30 : Int).toNat ((wrap64 (x30 + 1)) : Int).toNat).toList = x2.toList then (if x8.length < 17592186044416 then (spec_StartsFor.l0 k x2 (x8 ++ [x30]) x9 (wrap64 (x30 + 1))) else (none)) else (spec_StartsFor.l0 k x2 x8 x9 (wrap64 (x30 + 1)))) else (none)) else (none)) else (none)) else (some (x8, true))
end
def spec_StartsFor.f (k : Nat) (a0_0 : Int) (l0_1 : List Int) (a1 : ByteArray) (a2 : ByteArray) : Option (List Int × Bool) := (spec_laGood.f k a0_0 l0_1).bind fun t129 => (if t129 = true then ((spec_mrPrizes.f k a1 a0_0).bind fun t130 => (if t130 = true then ((spec_mrPrizes.f k a2 1).bind fun t131 => (spec_StartsFor.j0 k a1 a2 (!t131) a0_0 l0_1)) else (spec_StartsFor.j0 k a1 a2 true a0_0 l0_1))) else (spec_StartsFor.j0 k a1 a2 true a0_0 l0_1))
set_option maxHeartbeats 8000000 in
set_option maxRecDepth 100000 in
theorem spec_StartsFor.calls (k : Nat) (a0_0 : Int) (A0_1 : Option Addr) (c0_1 : Nat) (l0_1 : List Int) (a1 : ByteArray) (a2 : ByteArray) (r1 : List Int) (r2 : Bool) (w : World) (hr0_1 : Kd.C (Kd.int .i64) w A0_1 l0_1.length l0_1) (hc0_1 : l0_1.length ≤ c0_1) (h : spec_StartsFor.f k a0_0 l0_1 a1 a2 = some (r1, r2)) :
    Calls Tryd.prog 5 #[.agg #[.int .i64 a0_0, .slice A0_1 l0_1.length c0_1], .string a1, .string a2] w fun e w' => ∃ v0_ : Value, e = .returned (.tuple #[v0_, .bool r2]) ∧ Kd.R (Kd.int .i64) 3 w' w.heap.size (fun _ => True) v0_ r1 ∧ Below w.heap.size w w' := by
  have hu28 := Tryd.underlying28
  have HR0_1 := Aside0.mk hr0_1
  have HC0_1 := Aside0.mk hc0_1
  clear hr0_1 hc0_1
  have HB := Aside0.mk (Below.refl w.heap.size w)
  have H : ((spec_laGood.f k a0_0 l0_1).bind fun t129 => (if t129 = true then ((spec_mrPrizes.f k a1 a0_0).bind fun t130 => (if t130 = true then ((spec_mrPrizes.f k a2 1).bind fun t131 => (spec_StartsFor.j0 k a1 a2 (!t131) a0_0 l0_1)) else (spec_StartsFor.j0 k a1 a2 true a0_0 l0_1))) else (spec_StartsFor.j0 k a1 a2 true a0_0 l0_1))) = some (r1, r2) := h
  clear h
  have HC4 := Aside0.mk H
  clear H
  go_enter Tryd.func5, Tryd.ntmps5
  go_upto_region 1 with (first | ((with_reducible refine gate_dst (N := 3) rfl ?_); refine bx 3 #[.int .i64 a0_0, .slice A0_1 l0_1.length c0_1] 28 ?_; intro gb128 hg w5 hbox hb; have BK128 := Aside0.mk (hbox); have GW128 := gE hg HB; have GE128 := gE hg HB; replace HB := uD HB hb; clear hb hbox hg))
  (try simp only [Act.put, List.setIfInBounds_toArray, List.set_cons_zero, List.set_cons_succ])
  go_cut [25] (fun v25 wc => ∃ (kq : Nat) (x25_3 : Bool), v25 = .bool x25_3 ∧ Aside0 (spec_StartsFor.j0 kq a1 a2 x25_3 a0_0 l0_1 = some (r1, r2)) ∧ Aside0 (kq ≤ k) ∧ Aside0 (wc.heap[gb128]? = some (.cells #[.int .i64 a0_0, (.slice A0_1 l0_1.length c0_1)] 28 (0, 0))) ∧ Aside0 (Below w.heap.size w wc))
  case first =>
    have H := HC4.out
    clear HC4
    replace H := Option.bind_eq_some_iff.mp H
    obtain ⟨t129, A60, H⟩ := H
    replace H : (if t129 = true then ((spec_mrPrizes.f k a1 a0_0).bind fun t130 => (if t130 = true then ((spec_mrPrizes.f k a2 1).bind fun t131 => (spec_StartsFor.j0 k a1 a2 (!t131) a0_0 l0_1)) else (spec_StartsFor.j0 k a1 a2 true a0_0 l0_1))) else (spec_StartsFor.j0 k a1 a2 true a0_0 l0_1)) = some (r1, r2) := H
    have A6 := Aside0.mk A60
    clear A60
    by_cases c7 : t129 = true
    · subst c7
      have H1 : ((spec_mrPrizes.f k a1 a0_0).bind fun t130 => (if t130 = true then ((spec_mrPrizes.f k a2 1).bind fun t131 => (spec_StartsFor.j0 k a1 a2 (!t131) a0_0 l0_1)) else (spec_StartsFor.j0 k a1 a2 true a0_0 l0_1))) = some (r1, r2) := by rw [if_pos rfl] at H; exact H
      clear H
      have H := H1
      clear H1
      replace H := Option.bind_eq_some_iff.mp H
      obtain ⟨t130, A80, H⟩ := H
      replace H : (if t130 = true then ((spec_mrPrizes.f k a2 1).bind fun t131 => (spec_StartsFor.j0 k a1 a2 (!t131) a0_0 l0_1)) else (spec_StartsFor.j0 k a1 a2 true a0_0 l0_1)) = some (r1, r2) := H
      have A8 := Aside0.mk A80
      clear A80
      by_cases c9 : t130 = true
      · subst c9
        have H1 : ((spec_mrPrizes.f k a2 1).bind fun t131 => (spec_StartsFor.j0 k a1 a2 (!t131) a0_0 l0_1)) = some (r1, r2) := by rw [if_pos rfl] at H; exact H
        clear H
        have H := H1
        clear H1
        replace H := Option.bind_eq_some_iff.mp H
        obtain ⟨t131, A100, H⟩ := H
        replace H : (spec_StartsFor.j0 k a1 a2 (!t131) a0_0 l0_1) = some (r1, r2) := H
        have A10 := Aside0.mk A100
        clear A100
        have H' := Aside0.mk H
        clear H
        have hcz11_0 := cl BK128 0
        have hcz11_1 := cl BK128 1
        have hfz11_0 := blk_frozen BK128.out 0
        have hfz11_1 := blk_frozen BK128.out 1
        go_wp2_with (first | ((with_reducible refine gate_callee (f := 14) rfl ?_); refine gs (some 12) Tryd.func14 #[.agg #[.int .i64 a0_0, .slice A0_1 l0_1.length c0_1]] ?_; (with_reducible refine (spec_laGood.calls k a0_0 _ _ l0_1 true _ ?side1 ?side2 A6.out).mono ?_); (case side1 => exact qC (Kd.C_below HR0_1.out HB.out)); (case side2 => exact HC0_1.out); rintro e w12 ⟨rfl, hb⟩; refine ⟨_, rfl, ?_⟩; replace BK128 := uB BK128 hb; replace HB := uD HB hb; (try clear hb); (try clear hb2); (try clear hk); (try clear hi); have hcz13_0 := cl BK128 0; have hcz13_1 := cl BK128 1; have hfz13_0 := blk_frozen BK128.out 0; have hfz13_1 := blk_frozen BK128.out 1) | (go_at_call 15; (with_reducible refine (spec_mrPrizes.calls k a1 a0_0 true _ A8.out).mono ?_); rintro e w' ⟨rfl, ⟨nd, rfl⟩⟩) | (go_at_call 15; (with_reducible refine (spec_mrPrizes.calls k a2 1 t131 _ A10.out).mono ?_); rintro e w' ⟨rfl, ⟨nd, rfl⟩⟩))
        go_meet
        case rel => exact ⟨_, (!t131), (by first | rfl | (simp; done) | (simp [*]; done) | (simp [bne]; done)), H', ⟨by first | omega | exact Nat.le_refl _⟩, ⟨qB BK128⟩, ⟨qD HB⟩⟩
      · replace c9 := Bool.eq_false_iff.mpr c9
        subst c9
        have H1 : (spec_StartsFor.j0 k a1 a2 true a0_0 l0_1) = some (r1, r2) := by rw [if_neg (show ¬ (false = true) by decide)] at H; exact H
        clear H
        have H := H1
        clear H1
        have H' := Aside0.mk H
        clear H
        have hcz14_0 := cl BK128 0
        have hcz14_1 := cl BK128 1
        have hfz14_0 := blk_frozen BK128.out 0
        have hfz14_1 := blk_frozen BK128.out 1
        go_wp2_with (first | ((with_reducible refine gate_callee (f := 14) rfl ?_); refine gs (some 12) Tryd.func14 #[.agg #[.int .i64 a0_0, .slice A0_1 l0_1.length c0_1]] ?_; (with_reducible refine (spec_laGood.calls k a0_0 _ _ l0_1 true _ ?side1 ?side2 A6.out).mono ?_); (case side1 => exact qC (Kd.C_below HR0_1.out HB.out)); (case side2 => exact HC0_1.out); rintro e w15 ⟨rfl, hb⟩; refine ⟨_, rfl, ?_⟩; replace BK128 := uB BK128 hb; replace HB := uD HB hb; (try clear hb); (try clear hb2); (try clear hk); (try clear hi); have hcz16_0 := cl BK128 0; have hcz16_1 := cl BK128 1; have hfz16_0 := blk_frozen BK128.out 0; have hfz16_1 := blk_frozen BK128.out 1) | (go_at_call 15; (with_reducible refine (spec_mrPrizes.calls k a1 a0_0 false _ A8.out).mono ?_); rintro e w' ⟨rfl, ⟨nd, rfl⟩⟩))
        go_meet
        case rel => exact ⟨_, (true), (by first | rfl | (simp; done) | (simp [*]; done) | (simp [bne]; done)), H', ⟨by first | omega | exact Nat.le_refl _⟩, ⟨qB BK128⟩, ⟨qD HB⟩⟩
    · replace c7 := Bool.eq_false_iff.mpr c7
      subst c7
      have H1 : (spec_StartsFor.j0 k a1 a2 true a0_0 l0_1) = some (r1, r2) := by rw [if_neg (show ¬ (false = true) by decide)] at H; exact H
      clear H
      have H := H1
      clear H1
      have H' := Aside0.mk H
      clear H
      have hcz17_0 := cl BK128 0
      have hcz17_1 := cl BK128 1
      have hfz17_0 := blk_frozen BK128.out 0
      have hfz17_1 := blk_frozen BK128.out 1
      go_wp2_with (first | ((with_reducible refine gate_callee (f := 14) rfl ?_); refine gs (some 12) Tryd.func14 #[.agg #[.int .i64 a0_0, .slice A0_1 l0_1.length c0_1]] ?_; (with_reducible refine (spec_laGood.calls k a0_0 _ _ l0_1 false _ ?side1 ?side2 A6.out).mono ?_); (case side1 => exact qC (Kd.C_below HR0_1.out HB.out)); (case side2 => exact HC0_1.out); rintro e w18 ⟨rfl, hb⟩; refine ⟨_, rfl, ?_⟩; replace BK128 := uB BK128 hb; replace HB := uD HB hb; (try clear hb); (try clear hb2); (try clear hk); (try clear hi)))
      go_meet
      case rel => exact ⟨_, (true), (by first | rfl | (simp; done) | (simp [*]; done) | (simp [bne]; done)), H', ⟨by first | omega | exact Nat.le_refl _⟩, ⟨qB BK128⟩, ⟨qD HB⟩⟩
  case rest =>
    clear HC4
    try clear c1
    try clear p2
    try clear c5
    try clear c7
    try clear c9
    try clear c14
    try clear hcz11_0
    try clear hcz11_1
    try clear hcz13_0
    try clear hcz13_1
    try clear hcz14_0
    try clear hcz14_1
    try clear hcz16_0
    try clear hcz16_1
    try clear hcz17_0
    try clear hcz17_1
    try clear hfz11_0
    try clear hfz11_1
    try clear hfz13_0
    try clear hfz13_1
    try clear hfz14_0
    try clear hfz14_1
    try clear hfz16_0
    try clear hfz16_1
    try clear hfz17_0
    try clear hfz17_1
    obtain ⟨kq, x25_3, rfl, HA, HJ3, BK128, HB⟩ := hcut
    cases kq with
    | zero => exact absurd HA.out (by simp [spec_StartsFor.j0])
    | succ kj3 =>
      have H := HA.out
      clear HA
      simp only [spec_StartsFor.j0] at H
      by_cases c19 : x25_3 = true
      · subst c19
        have H1 : (some (([] : List Int), false)) = some (r1, r2) := by rw [if_pos rfl] at H; exact H
        clear H
        have H := H1
        clear H1
        simp only [Option.some.injEq, Prod.mk.injEq] at H
        obtain ⟨rfl, rfl⟩ := H
        go_wp2
        go_ret2
        exact ⟨_, by first | rfl | (simp [errW_none, errW_some] <;> rfl) | (simp [*, errW_none, errW_some] <;> rfl), by first | exact Kd.R_nil _ _ _ _ _ | exact Kd.N_nil _ _ _ _ _ | exact Kd.V_nil _ _ _ _ _ | exact Kd.Q_nil _ _ _ _ _ | exact Kd.S_nil _ _ _ _ _, qD HB⟩
      · replace c19 := Bool.eq_false_iff.mpr c19
        subst c19
        have H1 : ((spec_mrGiven.f kj3 a0_0 l0_1 a1).bind fun t132 => (if shortAscii t132 = true then (spec_StartsFor.l0 kj3 a2 ([] : List Int) t132 0) else none)) = some (r1, r2) := by rw [if_neg (show ¬ (false = true) by decide)] at H; exact H
        clear H
        have H := H1
        clear H1
        replace H := Option.bind_eq_some_iff.mp H
        obtain ⟨t132, A200, H⟩ := H
        replace H : (if shortAscii t132 = true then (spec_StartsFor.l0 kj3 a2 ([] : List Int) t132 0) else none) = some (r1, r2) := H
        have cA : shortAscii t132 = true := by
          by_cases cA : shortAscii t132 = true
          · exact cA
          · rw [if_neg cA] at H; exact absurd H (by simp)
        rw [if_pos cA] at H
        have HAS := Aside0.mk cA
        clear cA
        have A20 := Aside0.mk A200
        clear A200
        have H' := Aside0.mk H
        clear H
        have hcz21_0 := cl BK128 0
        have hcz21_1 := cl BK128 1
        have hfz21_0 := blk_frozen BK128.out 0
        have hfz21_1 := blk_frozen BK128.out 1
        go_wp2_with (first | ((with_reducible refine gate_callee (f := 16) rfl ?_); refine gs (some 28) Tryd.func16 #[.agg #[.int .i64 a0_0, .slice A0_1 l0_1.length c0_1], .string a1] ?_; (with_reducible refine (spec_mrGiven.calls kj3 a0_0 _ _ l0_1 a1 t132 _ ?side1 ?side2 A20.out).mono ?_); (case side1 => exact qC (Kd.C_below HR0_1.out HB.out)); (case side2 => exact HC0_1.out); rintro e w22 ⟨rfl, hb⟩; refine ⟨_, rfl, ?_⟩; replace BK128 := uB BK128 hb; replace HB := uD HB hb; (try clear hb); (try clear hb2); (try clear hk); (try clear hi)) | ((with_reducible refine gate_dst (N := 30) rfl ?_); refine shortAscii.wp rfl 9 _ rfl t132 rfl Tryd.underlying9 ?_; intro gi w23 hge hlt hit hb; have HIT := Aside0.mk hit; have GI_ := Aside0.mk (Nat.le_trans (below_size (qD HB)) hge); have GL_ := Aside0.mk hlt; replace BK128 := uB BK128 hb; replace HB := uD HB hb; clear hb hit hge hlt))
        (try simp only [Act.put, List.setIfInBounds_toArray, List.set_cons_zero, List.set_cons_succ])
        go_loopg [8] kj3 (fun kq v8 w' => ∃ (x8_2 : List Int) (x30_2 : Int), Aside0 (spec_StartsFor.l0 kq a2 x8_2 t132 x30_2 = some (r1, r2)) ∧ Aside0 (kq ≤ kj3) ∧ Aside0 (Kd.R (Kd.int .i64) 3 w' w.heap.size (fun k_ => k_ ≠ gi) v8 x8_2) ∧ Aside0 (0 ≤ x30_2 ∧ w'.heap[gi]? = some (.stringIter t132 x30_2.toNat)) ∧ Aside0 (w'.heap[gb128]? = some (.cells #[.int .i64 a0_0, (.slice A0_1 l0_1.length c0_1)] 28 (0, 0))) ∧ Aside0 (Below w.heap.size w w'))
        case atStart => exact ⟨(([] : List Int)), (0), H', ⟨Nat.le_refl _⟩, ⟨by first | exact Kd.R_nil _ _ _ _ _ | exact Kd.N_nil _ _ _ _ _ | exact Kd.V_nil _ _ _ _ _ | exact Kd.Q_nil _ _ _ _ _ | exact Kd.S_nil _ _ _ _ _⟩, ⟨⟨Int.le_refl _, HIT.out⟩⟩, ⟨qB BK128⟩, ⟨qD HB⟩⟩
        case round =>
          clear H'
          try clear c1
          try clear p2
          try clear c5
          try clear c7
          try clear c9
          try clear c14
          try clear c16
          try clear c19
          try clear hcz11_0
          try clear hcz11_1
          try clear hcz13_0
          try clear hcz13_1
          try clear hcz14_0
          try clear hcz14_1
          try clear hcz16_0
          try clear hcz16_1
          try clear hcz17_0
          try clear hcz17_1
          try clear hcz21_0
          try clear hcz21_1
          try clear hfz11_0
          try clear hfz11_1
          try clear hfz13_0
          try clear hfz13_1
          try clear hfz14_0
          try clear hfz14_1
          try clear hfz16_0
          try clear hfz16_1
          try clear hfz17_0
          try clear hfz17_1
          try clear hfz21_0
          try clear hfz21_1
          try clear p2
          obtain ⟨x8_2, x30_2, HA, HK2, HO_8, HIT, BK128, HB⟩ := hrel
          cases gk with
          | zero => exact absurd HA.out (by simp [spec_StartsFor.l0])
          | succ k2 =>
            have H := HA.out
            clear HA
            simp only [spec_StartsFor.l0] at H
            by_cases c23 : x30_2 < (t132.size : Int)
            · rw [if_pos c23] at H
              have c23b0 : decide (x30_2 < (t132.size : Int)) = true := decide_eq_true c23
              clear c23
              by_cases c24 : 0 ≤ x30_2
              · rw [if_pos c24] at H
                have c24b0 := eq_true c24
                have c24b1 : decide (0 ≤ x30_2) = true := decide_eq_true c24
                clear c24
                by_cases c25 : x30_2 ≤ (wrap64 (x30_2 + 1))
                · rw [if_pos c25] at H
                  have c25b0 := eq_true c25
                  have c25b1 : decide (x30_2 ≤ (wrap64 (x30_2 + 1))) = true := decide_eq_true c25
                  by_cases c26 : (wrap64 (x30_2 + 1)) ≤ (t132.size : Int)
                  · rw [if_pos c26] at H
                    have c26b0 := eq_true c26
                    have c26b1 : decide ((wrap64 (x30_2 + 1)) ≤ (t132.size : Int)) = true := decide_eq_true c26
                    have hlt_ : x30_2 < (t132.size : Int) := of_decide_eq_true c23b0
                    obtain ⟨c_, w24, hnx, hit_, hg_⟩ := shortAscii.next_ (P := Tryd.prog) HAS.out HIT.out.2 HIT.out.1 hlt_
                    have hsz_ : t132.size ≤ 1000 := by have h_ := HAS.out; unfold shortAscii at h_; rw [Bool.and_eq_true] at h_; exact of_decide_eq_true h_.2
                    have hx1_ : 0 ≤ wrap64 (x30_2 + 1) ∧ (wrap64 (x30_2 + 1)).toNat = x30_2.toNat + 1 := by have h_ := HIT.out.1; unfold wrap64; omega
                    replace HO_8 := Aside0.mk (Kd.R_grown HO_8.out hg_ (fun k_ hk e_ => hk (Option.some.inj e_)))
                    have hne_ : some gb128 ≠ some gi := by
                      intro e_
                      have e_ := Option.some.inj e_
                      subst e_
                      have h_ := BK128.out.symm.trans HIT.out.2
                      injection h_ with h_
                      cases h_
                    replace BK128 := Aside0.mk (blk_grown BK128.out hg_ hne_)
                    replace HB := Aside0.mk (HB.out.grown hg_ HB.out.size (fun j_ hj_ => by cases hj_; exact GI_.out))
                    have GL2_ : Aside0 (gi < w24.heap.size) := ⟨(Array.getElem?_eq_some_iff.1 hit_).1⟩
                    have HX1 := Aside0.mk hx1_
                    replace HIT := Aside0.mk hit_
                    clear hlt_ hsz_ hx1_ hne_ hit_ hg_
                    by_cases c27 : (t132.extract (x30_2 : Int).toNat ((wrap64 (x30_2 + 1)) : Int).toNat).toList = a2.toList
                    · rw [if_pos c27] at H
                      have c27b0 : ((t132.extract (x30_2 : Int).toNat ((wrap64 (x30_2 + 1)) : Int).toNat).toList == a2.toList) = true := beq_iff_eq.mpr c27
                      have c27b1 : ((t132.extract (x30_2 : Int).toNat ((wrap64 (x30_2 + 1)) : Int).toNat).toList != a2.toList) = false := bne_eq_false_iff_eq.mpr c27
                      clear c27
                      by_cases c28 : x8_2.length < 17592186044416
                      · rw [if_pos c28] at H
                        have LMc28 := Aside0.mk c28
                        clear c28
                        obtain ⟨y133, hy133⟩ : ∃ y_ : List Int, y_ = (x8_2 ++ [x30_2]) := ⟨_, rfl⟩
                        replace H : (spec_StartsFor.l0 k2 a2 y133 t132 (wrap64 (x30_2 + 1))) = some (r1, r2) := by first | (rw [hy133]; with_reducible exact H) | (have H2_ := (Option.bind_some _ _).symm.trans H; rw [hy133]; with_reducible exact H2_) | (have H2_ := (Option.bind_some _ _).symm.trans H; with_reducible exact H2_) | with_reducible exact H | (rw [hy133]; exact H) | exact H
                        have Ny133 := Aside0.mk hy133
                        clear hy133
                        have H' := Aside0.mk H
                        clear H
                        go_wp2_with (first | ((with_reducible refine gate_builtin (b := .append) (xs := #[.tmp 41, .tmp 43]) rfl ?_); at_builtin; refine Kd.R_append (Kd.int .i64) (w0 := w) w.heap.size rfl (.tmp 41) (.tmp 43) 22 3 (.int .i64 0) 8 rfl Tryd.underlying22 info3 rfl (by decide) (by omega) u8 x8_2 x30_2 [.int .i64 x30_2] (fun k_ => k_ ≠ gi) (fun _ => False) rfl rfl ?aP (fun _ hk => hk.elim) ?aF ?aO ?aB ?aS ?aL ?_; (case aP => exact rfl); (case aB => exact (qD HB)); (case aF => exact (fun k_ hk => Nat.ne_of_gt (Nat.lt_of_lt_of_le GL2_.out hk))); (case aO => exact (qR HO_8)); (case aS => exact (below_size (qD HB))); (case aL => have := LMc28.out; omega); intro v134 w29 ho hb hg hat; rw [← Ny133.out] at ho; replace HIT := Aside0.mk (blk_grown (by exact HIT.out) hg (fun e_ => HO_8.out.1 gi e_.symm rfl)); replace BK128 := Aside0.mk (blk_grown (g := gb128) (o := .cells #[.int .i64 a0_0, .slice A0_1 l0_1.length c0_1] 28 (0, 0)) (qB BK128) hg (Kd.R_ne HO_8.out BK128.out (by decide))); replace HB := Aside0.mk (hb); have HO135 := Aside0.mk (ho); clear HO_8; clear ho hb hg hat))
                        go_roundg k2
                        case measure => have := HJ3.out; have := HK2.out; omega
                        case rel => exact ⟨(y133), (wrap64 (x30_2 + 1)), H', ⟨by have := HJ3.out; have := HK2.out; omega⟩, ⟨qR HO135⟩, ⟨⟨HX1.out.1, by rw [HX1.out.2]; exact HIT.out⟩⟩, ⟨qB BK128⟩, ⟨qD HB⟩⟩
                      · rw [if_neg c28] at H
                        exact absurd H (by simp)
                    · rw [if_neg c27] at H
                      have c27b0 : ((t132.extract (x30_2 : Int).toNat ((wrap64 (x30_2 + 1)) : Int).toNat).toList == a2.toList) = false := beq_eq_false_iff_ne.mpr c27
                      have c27b1 : ((t132.extract (x30_2 : Int).toNat ((wrap64 (x30_2 + 1)) : Int).toNat).toList != a2.toList) = true := bne_iff_ne.mpr c27
                      have H' := Aside0.mk H
                      clear H
                      go_wp2
                      go_roundg k2
                      case measure => have := HJ3.out; have := HK2.out; omega
                      case rel => exact ⟨(x8_2), (wrap64 (x30_2 + 1)), H', ⟨by have := HJ3.out; have := HK2.out; omega⟩, ⟨qR HO_8⟩, ⟨⟨HX1.out.1, by rw [HX1.out.2]; exact HIT.out⟩⟩, ⟨qB BK128⟩, ⟨qD HB⟩⟩
                  · rw [if_neg c26] at H
                    exact absurd H (by simp)
                · rw [if_neg c25] at H
                  exact absurd H (by simp)
              · rw [if_neg c24] at H
                exact absurd H (by simp)
            · rw [if_neg c23] at H
              have hnx := shortAscii.end_ (P := Tryd.prog) HIT.out.2 c23
              have c23b0 : decide (x30_2 < (t132.size : Int)) = false := decide_eq_false c23
              clear c23
              simp only [Option.some.injEq, Prod.mk.injEq] at H
              obtain ⟨rfl, rfl⟩ := H
              go_wp2
              go_ret2
              exact ⟨_, by first | rfl | (simp [errW_none, errW_some] <;> rfl) | (simp [*, errW_none, errW_some] <;> rfl), Kd.R_mono (qR HO_8) (fun _ _ => trivial), qD HB⟩


end Go.Proofs.YtcflhinogpcadaaDoor.P
end
