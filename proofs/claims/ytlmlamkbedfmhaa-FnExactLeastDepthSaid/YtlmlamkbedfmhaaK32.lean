-- Put together by wip/merge.py (a program of this session's) out of this claim's texts; Lean checks it.
import Derived.Test.YtlmlamkbedfmhaaK22
import Derived.Test.YtlmlamkbedfmhaaK23
import Derived.Test.YtlmlamkbedfmhaaK29
import Derived.Test.YtlmlamkbedfmhaaK25
import Derived.Test.YtlmlamkbedfmhaaK30
import Derived.Test.YtlmlamkbedfmhaaK31
import Derived.Test.YtlmlamkbedfmhaaK26
section
namespace Go.Proofs.Ytlmlamkbedfmhaa.P
open Go.RowKit Go.Proofs.YtlmlamkbedfmhaaW.PrintWords Go.Proofs.YtlmlamkbedfmhaaW.PrintLast Go.Proofs.YtlmlamkbedfmhaaW.PrintMore
attribute [local go_sem] max2_int min2_int max_two min_two max_three min_three max_four min_four   -- for this text's walks alone
set_option linter.unusedVariables false
set_option linter.unusedSimpArgs false

/-! ### impl_allLevels: function 106 -/
mutual
def impl_allLevels.l0 : Nat → Int → List Int → Int → List (List Int) → Option (List (List Int))
  | 0, _, _, _, _ => none
  | k + 1, n, d, x, out => if x ≤ wrap64 (n - 2) then ((slices_Clone_int_int.f d).bind fun c => (if c.length < 17592186044416 then ((impl_allLevels.f k n (c ++ [x]) (wrap64 (x + 2)) out).bind fun o => (impl_allLevels.l0 k n d (wrap64 (x + 1)) o)) else none)) else (some out)
def impl_allLevels.f : Nat → Int → List Int → Int → List (List Int) → Option (List (List Int))
  | 0, _, _, _, _ => none
  | k + 1, n, d, x, out => if out.length < 5864062014805 then (impl_allLevels.l0 k n d x (out ++ [d])) else none
end
def impl_allLevels.Post (w0 w : World) (base : Nat) (vo : Value) (r : List (List Int)) (e : Ending) (w' : World) : Prop :=
  ∃ v0_ : Value, e = .returned v0_ ∧ Kd.S (Kd.slice 3 (Kd.int .i64)) 22 w' base (fun _ => True) v0_ r ∧ Below base w0 w' ∧ w.grownBy w' vo.ownBlock ∧ (v0_.ownBlock = vo.ownBlock ∨ ∃ b, v0_.ownBlock = some b ∧ w.heap.size ≤ b)
set_option maxHeartbeats 8000000 in
set_option maxRecDepth 100000 in
theorem impl_allLevels.grows (k : Nat) : ∀ (base : Nat) (n x : Int) (d : List Int) (out r : List (List Int)) (vd vo : Value) (w0 w : World)
    (hd : Kd.R (Kd.int .i64) 3 w base (fun k_ => some k_ ≠ vo.ownBlock) vd d) (ho : Kd.S (Kd.slice 3 (Kd.int .i64)) 22 w base (fun k_ => some k_ ≠ vd.ownBlock) vo out)
    (hb : Below base w0 w) (hbase : base ≤ w.heap.size) (h : impl_allLevels.f k n d x out = some r),
    Calls Try.prog 106 #[.int .i64 n, vd, .int .i64 x, vo] w (impl_allLevels.Post w0 w base vo r) := by
  induction k using Nat.strongRecOn with
  | _ k ih =>
  intro base n x d out r vd vo w0 w hd ho hb hbase h
  cases k with
  | zero => exact absurd h (by simp [impl_allLevels.f])
  | succ k =>
  simp only [impl_allLevels.f] at h
  by_cases c1 : out.length < 5864062014805
  · rw [if_pos c1] at h
    have LM1 := Aside0.mk c1
    clear c1
    obtain ⟨Ad, cd, ed⟩ := Kd.R_slice hd
    subst ed
    have HB := Aside0.mk hb
    have HBa := Aside0.mk hbase
    have HD := Aside0.mk hd
    have HO := Aside0.mk ho
    have H' := Aside0.mk h
    have IH := Aside0.mk ih
    obtain ⟨y0, hy0⟩ : ∃ y_ : List (List Int), y_ = out ++ [d] := ⟨_, rfl⟩
    rw [← hy0] at H'
    have NY := Aside0.mk hy0
    clear hb hbase hd ho h ih hy0
    go_enter Try.func106, Try.ntmps106
    go_wp2_with (first | ((with_reducible refine gate_builtin (b := .append) (xs := #[.tmp 10, .tmp 12]) rfl ?_); at_builtin; refine Kd.S_append (Kd.slice 3 (Kd.int .i64)) (w0 := w0) base rfl (.tmp 10) (.tmp 12) 42 22 (.slice none 0 0) 24 rfl Try.underlying42 info22 rfl (by decide) (by omega) vo out d [.slice Ad d.length cd] (fun _ => True) (fun k_ => some k_ = (.slice Ad d.length cd : Value).ownBlock) rfl rfl ?aP (fun k_ hk_ => ⟨trivial, HD.out.1 k_ hk_.symm⟩) ?aF ?aO ?aB ?aS ?aL ?_; (case aP => exact Kd.M_row (Kd.R_tight rfl HD.out)); (case aF => exact (fun _ _ => trivial)); (case aO => exact Kd.S_mono HO.out (fun k_ hk => ⟨trivial, hk⟩)); (case aB => exact HB.out); (case aS => exact HBa.out); (case aL => have := LM1.out; omega); intro v1 w1 hv1 hb1 hg1 hat1; rw [← NY.out] at hv1; have HV := Aside0.mk hv1; have HD1 := Aside0.mk (Kd.R_after (ok := fun _ => True) (Kd.R_mono HD.out (fun k_ hk => ⟨trivial, hk⟩)) hg1 hat1); have HB1 := Aside0.mk hb1; have HG1 := Aside0.mk hg1; have HA1 := Aside0.mk hat1; clear HD HO HB hv1 hb1 hg1 hat1))
    go_loopg [3, 9] k (fun kq v3 v9 w' => ∃ (o : List (List Int)) (x9 : Int), v9 = .int .i64 x9 ∧ Aside0 (impl_allLevels.l0 kq n d x9 o = some r) ∧ Aside0 (kq ≤ k) ∧ Aside0 (Kd.S (Kd.slice 3 (Kd.int .i64)) 22 w' base (fun _ => True) v3 o) ∧ Aside0 (Kd.R (Kd.int .i64) 3 w' base (fun k_ => True ∧ some k_ ≠ v3.ownBlock) (.slice Ad d.length cd) d) ∧ Aside0 (Below base w0 w') ∧ Aside0 (w.grownBy w' vo.ownBlock) ∧ Aside0 (v3.ownBlock = vo.ownBlock ∨ ∃ b, v3.ownBlock = some b ∧ w.heap.size ≤ b))
    case atStart => exact ⟨y0, x, rfl, H', ⟨Nat.le_refl _⟩, HV, HD1, HB1, HG1, HA1⟩
    case round =>
      clear H' HV HD1 HB1 HG1 HA1
      obtain ⟨o, x9, rfl, HA, HK1, HV, HD1, HB1, HG1, HA1⟩ := hrel
      cases gk with
      | zero => exact absurd HA.out (by simp [impl_allLevels.l0])
      | succ k1 =>
        have H := HA.out
        clear HA
        simp only [impl_allLevels.l0] at H
        by_cases c5 : x9 ≤ (wrap64 (n - 2))
        · rw [if_pos c5] at H
          have c5b0 : decide (x9 ≤ (wrap64 (n - 2))) = true := decide_eq_true c5
          clear c5
          replace H := Option.bind_eq_some_iff.mp H
          obtain ⟨t1, A1, H⟩ := H
          have A1 := Aside0.mk A1
          by_cases c6 : t1.length < 17592186044416
          · rw [if_pos c6] at H
            have LM6 := Aside0.mk c6
            clear c6
            obtain ⟨y1, hy1⟩ : ∃ y_ : List Int, y_ = t1 ++ [x9] := ⟨_, rfl⟩
            rw [← hy1] at H
            have NY1 := Aside0.mk hy1
            clear hy1
            replace H := Option.bind_eq_some_iff.mp H
            obtain ⟨t2, A2, H⟩ := H
            have A2 := Aside0.mk A2
            have H' := Aside0.mk H
            clear H
            have HS := Aside0.mk HB1.out.size
            go_wp2_with (first
              | ((with_reducible refine gate_callee (f := 94) rfl ?_); refine gs (some 23) Try.func94 #[.slice Ad d.length cd] ?_; (with_reducible refine (slices_Clone_int_int.calls _ _ d t1 _ ?side1 ?side2 A1.out).mono ?_); (case side1 => exact qC (Kd.R_reads' HD1.out).2.2); (case side2 => exact (Kd.R_reads' HD1.out).2.1); rintro e w2 ⟨v2, rfl, ho0, hb⟩; refine ⟨_, rfl, ?_⟩; have HC := Aside0.mk (Kd.R_lower ho0 (Nat.le_trans HBa.out HG1.out.size)); replace HV := Aside0.mk (Kd.S_elder' (qS HV) (Kd.R_base ho0) hb); replace HD1 := eR HD1 ho0 hb; have HG2 := Aside0.mk (HG1.out.andThen (grown_of_below hb none) (fun j_ hj_ => by cases hj_)); have HL2 := Aside0.mk (Nat.le_trans HBa.out HG2.out.size); have HB2 := Aside0.mk (HB1.out.trans (hb.mono (Nat.le_trans HBa.out HG1.out.size))); have HC2 : Aside0 (∀ j_, v2.ownBlock = some j_ → w.heap.size ≤ j_) := ⟨fun j_ hj_ => Nat.le_trans HG1.out.size (Kd.R_base ho0 j_ hj_)⟩; clear hb ho0)
              | ((with_reducible refine gate_builtin (b := .append) (xs := #[.tmp 23, .tmp 25]) rfl ?_); at_builtin; refine Kd.R_append (Kd.int .i64) (w0 := w0) base rfl (.tmp 23) (.tmp 25) 22 3 (.int .i64 0) 8 rfl Try.underlying22 info3 rfl (by decide) (by omega) v2 t1 x9 [.int .i64 x9] (fun _ => True) (fun _ => False) rfl rfl ?aP (fun _ hk => hk.elim) ?aF ?aO ?aB ?aS ?aL ?_; (case aP => exact rfl); (case aF => exact (fun _ _ => trivial)); (case aO => exact qR HC); (case aB => exact HB2.out); (case aS => exact HL2.out); (case aL => have := LM6.out; omega); intro v4 w4 hv4 hb4 hg4 hat4; rw [← NY1.out] at hv4; replace HV := Aside0.mk (Kd.S_after (ok := fun _ => True) (qS HV) hg4 hat4); replace HD1 := Aside0.mk (Kd.R_after (ok := fun k_ => True ∧ some k_ ≠ u3.ownBlock) (qR HD1) hg4 hat4); have HG4 := Aside0.mk (HG2.out.andThen hg4 (fun j_ hj_ => .inl (HC2.out j_ hj_))); have HV4 := Aside0.mk hv4; have HB4 := Aside0.mk hb4; clear hv4 hb4 hg4 hat4)
              )
            refine (IH.out k1 (by have := HK1.out; omega) base n (wrap64 (x9 + 2)) y1 o t2 v4 u3 w0 _ ?s1 ?s2 ?s3 ?s4 A2.out).mono ?_
            case s1 => exact Kd.R_mono (Kd.R_tight rfl HV4.out) (fun k_ hk e_ => ((Kd.S_R HV.out).1 k_ e_.symm).2 hk)
            case s2 => exact Kd.S_mono HV.out (fun _ hk => hk.2)
            case s3 => exact HB4.out
            case s4 => exact Nat.le_trans HBa.out HG4.out.size
            rintro e w5 ⟨v5, rfl, hv5, hb5, hg5, hat5⟩
            have HD5 := Aside0.mk (Kd.R_after (ok := fun _ => True) (Kd.R_mono HD1.out (fun _ hk => hk.1)) hg5 hat5)
            have HV5 := Aside0.mk hv5
            have HB5 := Aside0.mk hb5
            have HG5 := Aside0.mk (HG4.out.andThen hg5 (fun j_ hj_ => by
              rcases HA1.out with e_ | ⟨b_, e_, hle⟩
              · exact .inr (e_ ▸ hj_)
              · rw [e_] at hj_; cases hj_; exact .inl hle))
            have HA5 : Aside0 (v5.ownBlock = vo.ownBlock ∨ ∃ b, v5.ownBlock = some b ∧ w.heap.size ≤ b) := ⟨by
              rcases hat5 with e_ | ⟨b_, e_, hle⟩
              · rw [e_]; exact HA1.out
              · exact .inr ⟨b_, e_, Nat.le_trans HG4.out.size hle⟩⟩
            clear hv5 hb5 hg5 hat5
            go_wp2
            go_roundg k1
            case measure => have := HK1.out; omega
            case rel => exact ⟨t2, (wrap64 (x9 + 1)), (by first | rfl | (simp; done) | (simp [*]; done) | (simp [bne]; done)), H', ⟨by have := HK1.out; omega⟩, HV5, HD5, HB5, HG5, HA5⟩
          · rw [if_neg c6] at H
            exact absurd H (by simp)
        · rw [if_neg c5] at H
          have c5b0 : decide (x9 ≤ (wrap64 (n - 2))) = false := decide_eq_false c5
          clear c5
          obtain rfl := Option.some.inj H
          go_wp2
          go_ret
          exact ⟨_, rfl, HV.out, HB1.out, HG1.out, HA1.out⟩
  · rw [if_neg c1] at h
    exact absurd h (by simp)

end Go.Proofs.Ytlmlamkbedfmhaa.P
end
section
namespace Go.Proofs.Ytlmlamkbedfmhaa.P
open Go.RowKit Go.Proofs.YtlmlamkbedfmhaaW.PrintWords Go.Proofs.YtlmlamkbedfmhaaW.PrintLast Go.Proofs.YtlmlamkbedfmhaaW.PrintMore
attribute [local go_sem] max2_int min2_int max_two min_two max_three min_three max_four min_four   -- for this text's walks alone
set_option linter.unusedVariables false
set_option linter.unusedSimpArgs false

/-! ### impl_exchanged: function 168 -/
def impl_exchanged.f (l0 : List Int) (a1 : Int) : Option (List Int) := (slices_Clone_int_int.f l0).bind fun t621 => (if 0 ≤ (wrap64 (a1 + 1)) then (if (wrap64 (a1 + 1)) < (t621.length : Int) then (if 0 ≤ a1 then (if a1 < (t621.length : Int) then (some ((t621.set (a1 : Int).toNat (rd t621 (wrap64 (a1 + 1)))).set ((wrap64 (a1 + 1)) : Int).toNat (rd t621 a1))) else (none)) else (none)) else (none)) else (none))
def impl_exchanged.T2 : Bool × List (List Nat × List Nat) := (true, [([], []), ([], []), ([], []), ([], []), ([3], [3]), ([], []), ([], []), ([6], [6]), ([5, 7], [5, 7]), ([8], [8]), ([], []), ([], []), ([10, 11], [10, 11]), ([12], [12]), ([0, 1, 0, 1, 5, 6, 7, 8, 9, 13], [0, 1]), ([14, 9, 0, 1, 5, 6, 7, 8, 9, 13], [9, 14]), ([2, 4, 0, 1, 2, 3, 4, 5, 6, 7, 8, 9, 10, 11, 12, 13, 14, 15], [2, 4]), ([16, 13, 15, 0, 1, 2, 3, 4, 5, 6, 7, 8, 9, 10, 11, 12, 13, 14, 15], [13, 16])])
def impl_exchanged.B2 : List Nat := [0, 0, 0, 0, 8, 0, 0, 64, 224, 480, 0, 0, 3072, 7168, 16355, 32739, 65535, 131071]
theorem impl_exchanged.tab2 : rtab .any (opsOf Try.f168 2) = impl_exchanged.T2 := by kernel_rfl
theorem impl_exchanged.bits2 : waitsOk impl_exchanged.T2.2 impl_exchanged.B2 = true := by kernel_rfl
set_option maxHeartbeats 8000000 in
set_option maxRecDepth 100000 in
theorem impl_exchanged.calls (A0 : Option Addr) (c0 : Nat) (l0 : List Int) (a1 : Int) (r : List Int) (w : World) (hr0 : Kd.C (Kd.int .i64) w A0 l0.length l0) (hc0 : l0.length ≤ c0) (h : impl_exchanged.f l0 a1 = some r) :
    Calls Try.prog 168 #[.slice A0 l0.length c0, .int .i64 a1] w fun e w' => ∃ v0_ : Value, e = .returned (v0_) ∧ Kd.R (Kd.int .i64) 3 w' w.heap.size (fun _ => True) v0_ r ∧ Below w.heap.size w w' := by
  have HR0 := Aside0.mk hr0
  have HC0 := Aside0.mk hc0
  clear hr0 hc0
  have HB := Aside0.mk (Below.refl w.heap.size w)
  have H : ((slices_Clone_int_int.f l0).bind fun t621 => (if 0 ≤ (wrap64 (a1 + 1)) then (if (wrap64 (a1 + 1)) < (t621.length : Int) then (if 0 ≤ a1 then (if a1 < (t621.length : Int) then (some ((t621.set (a1 : Int).toNat (rd t621 (wrap64 (a1 + 1)))).set ((wrap64 (a1 + 1)) : Int).toNat (rd t621 a1))) else (none)) else (none)) else (none)) else (none))) = some r := h
  clear h
  replace H := Option.bind_eq_some_iff.mp H
  obtain ⟨t621, A30, H⟩ := H
  replace H : (if 0 ≤ (wrap64 (a1 + 1)) then (if (wrap64 (a1 + 1)) < (t621.length : Int) then (if 0 ≤ a1 then (if a1 < (t621.length : Int) then (some ((t621.set (a1 : Int).toNat (rd t621 (wrap64 (a1 + 1)))).set ((wrap64 (a1 + 1)) : Int).toNat (rd t621 a1))) else (none)) else (none)) else (none)) else (none)) = some r := H
  have A3 := Aside0.mk A30
  clear A30
  obtain ⟨ji4, hji4⟩ : ∃ j_ : Int, (wrap64 (a1 + 1)) = j_ := ⟨_, rfl⟩
  replace H : (if 0 ≤ (ji4) then (if (ji4) < (t621.length : Int) then (if 0 ≤ a1 then (if a1 < (t621.length : Int) then (some ((t621.set (a1 : Int).toNat (rd t621 (ji4))).set ((ji4) : Int).toNat (rd t621 a1))) else (none)) else (none)) else (none)) else (none)) = some r := by first | (rw [hji4] at H; exact H) | (simp only [hji4] at H ⊢; exact H)
  (try rw [hji4] at A3)
  have hji4w : (IntKind.i64.wrap (a1 + 1)) = ji4 := (i64_w _).trans hji4
  by_cases c5 : 0 ≤ (ji4)
  · rw [if_pos c5] at H
    have c5b0 : decide (0 ≤ (ji4)) = true := decide_eq_true c5
    clear c5
    by_cases c6 : (ji4) < (t621.length : Int)
    · rw [if_pos c6] at H
      have c6b0 : decide ((ji4) < (t621.length : Int)) = true := decide_eq_true c6
      clear c6
      by_cases c7 : 0 ≤ a1
      · rw [if_pos c7] at H
        have c7b0 : decide (0 ≤ a1) = true := decide_eq_true c7
        clear c7
        by_cases c8 : a1 < (t621.length : Int)
        · rw [if_pos c8] at H
          have c8b0 : decide (a1 < (t621.length : Int)) = true := decide_eq_true c8
          clear c8
          obtain ⟨y626, hy626⟩ : ∃ y_ : List Int, y_ = (t621.set (a1 : Int).toNat (rd t621 (ji4))) := ⟨_, rfl⟩
          replace H : (some (y626.set ((ji4) : Int).toNat (rd t621 a1))) = some r := by first | (rw [hy626]; with_reducible exact H) | (have H2_ := (Option.bind_some _ _).symm.trans H; rw [hy626]; with_reducible exact H2_) | (have H2_ := (Option.bind_some _ _).symm.trans H; with_reducible exact H2_) | with_reducible exact H | (rw [hy626]; exact H) | exact H
          have Ny626 := Aside0.mk hy626
          clear hy626
          obtain ⟨y627, hy627⟩ : ∃ y_ : List Int, y_ = (y626.set ((ji4) : Int).toNat (rd t621 a1)) := ⟨_, rfl⟩
          replace H : (some y627) = some r := by first | (rw [hy627]; with_reducible exact H) | (have H2_ := (Option.bind_some _ _).symm.trans H; rw [hy627]; with_reducible exact H2_) | (have H2_ := (Option.bind_some _ _).symm.trans H; with_reducible exact H2_) | with_reducible exact H | (rw [hy627]; exact H) | exact H
          have Ny627 := Aside0.mk hy627
          clear hy627
          obtain rfl := Option.some.inj H
          go_enter Try.func168, Try.ntmps168
          try go_wp2_with (first | ((with_reducible refine gate_callee (f := 94) rfl ?_); refine gs (some 7) Try.func94 #[.slice A0 l0.length c0] ?_; (with_reducible refine (slices_Clone_int_int.calls _ _ l0 t621 _ ?side1 ?side2 A3.out).mono ?_); (case side1 => repeat (first | exact HR0.out | (with_reducible refine Kd.C_alloc ?_ _) | (with_reducible refine Kd.C_drewN ?_ _) | (with_reducible refine Kd.C_drew ?_))); (case side2 => exact HC0.out); rintro e w11 ⟨v622, rfl, ho0, hb⟩; refine ⟨_, rfl, ?_⟩; have HO623 := Aside0.mk (Kd.R_lower ho0 (below_size (qD HB))); replace HB := uD HB hb; (try clear hb); (try clear hb2); (try clear hk); (try clear hi); (try clear ho0)))
          replace HO623 := Aside0.mk (Kd.R_drew HO623.out)
          replace HB := Aside0.mk (below_drew1 HB.out)
          obtain ⟨Ao13, co13, eo13⟩ := Kd.R_slice HO623.out
          (first | subst eo13 | (injection eo13 with f1_ f2_ f3_; have f4_ := f1_.symm; have f5_ := f3_.symm; clear f1_ f2_ f3_; subst f4_; subst f5_))
          have p624 : 0 ≤ ((ji4) : Int) := of_decide_eq_true (by first | (with_reducible assumption) | assumption)
          have q624 : (ji4) < (t621.length : Int) := of_decide_eq_true (by first | (with_reducible assumption) | assumption)
          obtain ⟨ad624, e624, hx624_0⟩ := Kd.at_int (Kd.R_reads' HO623.out).2.2 (ji4) p624 q624
          cases e624
          replace p624 := eq_true p624
          replace q624 := eq_true q624
          have p625 : 0 ≤ (a1 : Int) := of_decide_eq_true (by first | (with_reducible assumption) | assumption)
          have q625 : a1 < (t621.length : Int) := of_decide_eq_true (by first | (with_reducible assumption) | assumption)
          obtain ⟨ad625, e625, hx625_0⟩ := Kd.at_int (Kd.R_reads' HO623.out).2.2 a1 p625 q625
          obtain rfl : ad624 = ad625 := (by injection e625)
          replace p625 := eq_true p625
          replace q625 := eq_true q625
          have p9 : 0 ≤ (a1 : Int) := of_decide_eq_true (by first | (with_reducible assumption) | assumption)
          have q9 : (a1 : Int) < ((t621.length : Int) : Int) := of_decide_eq_true (by first | (with_reducible assumption) | assumption)
          obtain ⟨go9, co9, eo9, gb9, gl9, cl9, HG9⟩ := Kd.R_form HO623.out (by omega)
          (first | cases eo9 | (injection eo9 with ea_ en_ ec_; (first | subst ea_ | (injection ea_ with ea_; subst ea_)); subst ec_; clear en_))
          have GB9 := Aside0.mk gb9
          have GG9 := Aside0.mk HG9
          clear gb9 gl9 HG9
          (first | simp only [add_plain] at hx624_0 | skip)
          (first | simp only [add_plain] at hx625_0 | skip)
          obtain ⟨hx9_0, hf9_0⟩ := Kd.R_celln 0 HO623.out (a1 : Int) p9 q9
          replace p9 := eq_true p9
          replace q9 := eq_true q9
          have HP14 := Kd.R_putn HO623.out (a1 : Int) (rd t621 (ji4))
          rw [← Ny626.out] at HP14
          have HQ14 := Aside0.mk HP14
          clear HP14
          have p10 : 0 ≤ ((ji4) : Int) := of_decide_eq_true (by first | (with_reducible assumption) | assumption)
          have q10 : ((ji4) : Int) < ((t621.length : Int) : Int) := of_decide_eq_true (by first | (with_reducible assumption) | assumption)
          obtain ⟨hx10_0, hf10_0⟩ := Kd.R_celln 0 HQ14.out ((ji4) : Int) p10 q10
          replace p10 := eq_true p10
          replace q10 := eq_true q10
          have HP15 := Kd.R_putn HQ14.out ((ji4) : Int) (rd t621 a1)
          rw [← Ny627.out] at HP15
          have HQ15 := Aside0.mk HP15
          clear HP15
          refine start_ (n := 18) (S := fun w' => w'.cell? ⟨go9, ((ji4)).toNat, none⟩ = some (.int .i64 (rd t621 (ji4))) ∧ w'.cell? ⟨go9, (a1).toNat, none⟩ = some (.int .i64 (rd t621 a1))) (ds := [15, 17]) #[false, false, false, false, false, false, false, false, false, false, false, false, false, false, false, false, false, false] (by kernel_rfl) rfl rfl ⟨hx624_0, hx625_0⟩ (fun hHeld => ?_); refine with_tabW impl_exchanged.tab2 impl_exchanged.bits2 (fun HT_ HW_ => ?_)
          generalize w11.drew = w12 at HO623 HB GG9 HQ14 HQ15 hf10_0 hf9_0 hx10_0 hx624_0 hx625_0 hx9_0 hHeld ⊢
          refine pu 0 (some 8) #[true, false, false, false, false, false, false, false, false, false, false, false, false, false, false, false, false, false] HT_ ?_
          refine pu 1 (some 9) #[true, true, false, false, false, false, false, false, false, false, false, false, false, false, false, false, false, false] HT_ ?_
          refine pu 2 (some 10) #[true, true, true, false, false, false, false, false, false, false, false, false, false, false, false, false, false, false] HT_ ?_
          refine pu 3 (some 11) #[true, true, true, true, false, false, false, false, false, false, false, false, false, false, false, false, false, false] HT_ ?_
          refine pu 4 (some 12) #[true, true, true, true, true, false, false, false, false, false, false, false, false, false, false, false, false, false] HT_ ?_
          refine pu 5 (some 13) #[true, true, true, true, true, true, false, false, false, false, false, false, false, false, false, false, false, false] HT_ ?_
          refine pu 6 (some 14) #[true, true, true, true, true, true, true, false, false, false, false, false, false, false, false, false, false, false] HT_ ?_
          refine pu 7 (some 15) #[true, true, true, true, true, true, true, true, false, false, false, false, false, false, false, false, false, false] HT_ ?_
          refine pu 8 (some 16) #[true, true, true, true, true, true, true, true, true, false, false, false, false, false, false, false, false, false] HT_ ?_
          refine pu 10 (some 18) #[true, true, true, true, true, true, true, true, true, false, true, false, false, false, false, false, false, false] HT_ ?_
          refine pu 11 (some 19) #[true, true, true, true, true, true, true, true, true, false, true, true, false, false, false, false, false, false] HT_ ?_
          refine pu 12 (some 20) #[true, true, true, true, true, true, true, true, true, false, true, true, true, false, false, false, false, false] HT_ ?_
          refine tk 9 (some 17) #[true, true, true, true, true, true, true, true, true, true, true, true, true, false, false, false, false, false] HT_ HW_ hHeld ?_
          refine tk 13 (some 21) #[true, true, true, true, true, true, true, true, true, true, true, true, true, true, false, false, false, false] HT_ HW_ hHeld ?_
          refine pu 14 (some 22) #[true, true, true, true, true, true, true, true, true, true, true, true, true, true, true, false, false, false] HT_ ?_
          refine last_ (i := 15) (N := none) #[true, true, true, true, true, true, true, true, true, true, true, true, true, true, true, true, false, false] rfl rfl (one_of HT_.out (by kernel_rfl)) (by decide) (fun K hK => ?_)
          refine skip_ (w1 := ?_) (by rfl) rfl ?_ ?_
          rotate_left
          · go_simp
            rfl
          refine hK.out _ _ ?_
          clear hK K
          refine pu 16 (some 23) #[true, true, true, true, true, true, true, true, true, true, true, true, true, true, true, true, true, false] HT_ ?_
          refine last_ (i := 17) (N := none) #[true, true, true, true, true, true, true, true, true, true, true, true, true, true, true, true, true, true] rfl rfl (one_of HT_.out (by kernel_rfl)) (by decide) (fun K hK => ?_)
          refine skip_ (w1 := ?_) (by rfl) rfl ?_ ?_
          rotate_left
          · go_simp
            rfl
          refine hK.out _ _ ?_
          clear hK K
          refine done_ (done_of HT_.out (by kernel_rfl)) ?_
          try go_wp2
          go_ret
          exact ⟨_, by first | rfl | (simp [errW_none, errW_some] <;> rfl) | (simp only [← hji4]; first | rfl | (simp [errW_none, errW_some] <;> rfl)) | (simp [*, errW_none, errW_some] <;> rfl), qR HQ15, by repeat (first | (with_reducible first | exact HB.out | apply below_alloc | apply pw_below_drewN | apply below_drew1 | refine below_set ?_ GB9.out | refine below_set ?_ GB9.out) | exact HB.out)⟩
        · rw [if_neg c8] at H
          exact absurd H (by simp)
      · rw [if_neg c7] at H
        exact absurd H (by simp)
    · rw [if_neg c6] at H
      exact absurd H (by simp)
  · rw [if_neg c5] at H
    exact absurd H (by simp)

end Go.Proofs.Ytlmlamkbedfmhaa.P
end
section
namespace Go.Proofs.Ytlmlamkbedfmhaa.P
open Go.RowKit Go.Proofs.YtlmlamkbedfmhaaW.PrintWords Go.Proofs.YtlmlamkbedfmhaaW.PrintLast Go.Proofs.YtlmlamkbedfmhaaW.PrintMore
attribute [local go_sem] max2_int min2_int max_two min_two max_three min_three max_four min_four   -- for this text's walks alone
set_option linter.unusedVariables false
set_option linter.unusedSimpArgs false

/-! ### impl_laid: function 107 -/
def impl_laid.l0 : Nat → List Int → List Int → Int → Int → Option (List Int)
  | 0, _, _, _, _ => none
  | k + 1, x0, x7, x8, x9 => if x9 < x8 then (if 0 ≤ x9 then (if x9 < (x7.length : Int) then ((impl_exchanged.f x0 (rd x7 x9)).bind fun t629 => (impl_laid.l0 k t629 x7 x8 (wrap64 (x9 + 1)))) else (none)) else (none)) else (some x0)
def impl_laid.f (k : Nat) (l0 : List Int) (l1 : List Int) : Option (List Int) := impl_laid.l0 k l0 l1 (l1.length : Int) 0
set_option maxHeartbeats 8000000 in
set_option maxRecDepth 100000 in
theorem impl_laid.calls (k : Nat) (P0_ : Nat → Prop) (A0 : Option Addr) (c0 : Nat) (l0 : List Int) (A1 : Option Addr) (c1 : Nat) (l1 : List Int) (r : List Int) (w : World) (hs0 : Kd.V (Kd.int .i64) 3 w w.heap.size (fun k_ => P0_ k_) (.slice A0 l0.length c0) l0) (hr1 : Kd.C (Kd.int .i64) w A1 l1.length l1) (hc1 : l1.length ≤ c1) (h : impl_laid.f k l0 l1 = some r) :
    Calls Try.prog 107 #[.slice A0 l0.length c0, .slice A1 l1.length c1] w fun e w' => ∃ v0_ : Value, e = .returned (v0_) ∧ Kd.V (Kd.int .i64) 3 w' w.heap.size (fun k_ => (P0_ k_ ∨ w.heap.size ≤ k_)) v0_ r ∧ Below w.heap.size w w' := by
  have HO0 := Aside0.mk (show Kd.V (Kd.int .i64) 3 w w.heap.size (fun k_ => (P0_ k_ ∨ w.heap.size ≤ k_)) (.slice A0 l0.length c0) l0 from Kd.V_mono hs0 (fun k_ hk => .inl hk))
  have HR1 := Aside0.mk hr1
  have HC1 := Aside0.mk hc1
  clear hr1 hc1
  have HB := Aside0.mk (Below.refl w.heap.size w)
  have H : (impl_laid.l0 k l0 l1 (l1.length : Int) 0) = some r := h
  clear h
  have H' := Aside0.mk H
  clear H
  go_enter Try.func107, Try.ntmps107
  go_wp2
  go_loopg [0, 9] k (fun kq v0 v9 w' => ∃ (x0_1 : List Int) (x9_1 : Int), v9 = .int .i64 x9_1 ∧ Aside0 (impl_laid.l0 kq x0_1 l1 (l1.length : Int) x9_1 = some r) ∧ Aside0 (kq ≤ k) ∧ Aside0 (Kd.V (Kd.int .i64) 3 w' w.heap.size (fun k_ => (P0_ k_ ∨ w.heap.size ≤ k_)) v0 x0_1) ∧ Aside0 (Below w.heap.size w w'))
  case atStart => exact ⟨(l0), (0), (by first | rfl | (simp; done) | (simp [*]; done) | (simp [bne]; done)), H', ⟨Nat.le_refl _⟩, ⟨qV HO0⟩, ⟨qD HB⟩⟩
  case round =>
    clear H'
    try clear c1
    try clear p2
    obtain ⟨x0_1, x9_1, rfl, HA, HK1, HO_0, HB⟩ := hrel
    cases gk with
    | zero => exact absurd HA.out (by simp [impl_laid.l0])
    | succ k1 =>
      have H := HA.out
      clear HA
      simp only [impl_laid.l0] at H
      by_cases c3 : x9_1 < (l1.length : Int)
      · rw [if_pos c3] at H
        have c3b0 : decide (x9_1 < (l1.length : Int)) = true := decide_eq_true c3
        clear c3
        by_cases c4 : 0 ≤ x9_1
        · rw [if_pos c4] at H
          have c4b0 : decide (0 ≤ x9_1) = true := decide_eq_true c4
          clear c4
          by_cases c5 : x9_1 < (l1.length : Int)
          · rw [if_pos c5] at H
            have c5b0 : decide (x9_1 < (l1.length : Int)) = true := decide_eq_true c5
            clear c5
            replace H := Option.bind_eq_some_iff.mp H
            obtain ⟨t629, A60, H⟩ := H
            replace H : (impl_laid.l0 k1 t629 l1 (l1.length : Int) (wrap64 (x9_1 + 1))) = some r := H
            have A6 := Aside0.mk A60
            clear A60
            have H' := Aside0.mk H
            clear H
            have p628 : 0 ≤ (x9_1 : Int) := of_decide_eq_true (by first | (with_reducible assumption) | assumption)
            have q628 : x9_1 < (l1.length : Int) := of_decide_eq_true (by first | (with_reducible assumption) | assumption)
            obtain ⟨ad628, e628, hx628_0⟩ := Kd.at_int HR1.out x9_1 p628 q628
            cases e628
            replace hx628_0 := (HB.out.cell (World.block_lt_of_cell? w _ hx628_0)).trans hx628_0
            replace p628 := eq_true p628
            replace q628 := eq_true q628
            obtain ⟨Ao7, co7, eo7⟩ := Kd.V_slice HO_0.out
            subst eo7
            go_wp2_with (first | ((with_reducible refine gate_callee (f := 168) rfl ?_); refine gs (some 15) Try.func168 #[.slice Ao7 x0_1.length co7, .int .i64 (rd l1 x9_1)] ?_; (with_reducible refine (impl_exchanged.calls _ _ x0_1 (rd l1 x9_1) t629 _ ?side1 ?side2 A6.out).mono ?_); (case side1 => exact qC (Kd.V_reads' HO_0.out).2.2); (case side2 => exact (Kd.V_reads' HO_0.out).2.1); rintro e w8 ⟨v630, rfl, ho0, hb⟩; refine ⟨_, rfl, ?_⟩; replace HO_0 := Aside0.mk (Kd.V_elder' (qV HO_0) (Kd.R_base ho0) hb); have HO631 := Aside0.mk (Kd.R_lower (Kd.R_newM (M := fun k_ => (w.heap.size ≤ k_)) ho0 (below_size (qD HB)) (fun k_ h_ => h_)) (below_size (qD HB))); replace HB := uD HB hb; (try clear hb); (try clear hb2); (try clear hk); (try clear hi); (try clear ho0)))
            go_roundg k1
            case measure => have := HK1.out; omega
            case rel => exact ⟨(t629), (wrap64 (x9_1 + 1)), (by first | rfl | (simp; done) | (simp [*]; done) | (simp [bne]; done)), H', ⟨by have := HK1.out; omega⟩, ⟨Kd.V_mono (Kd.R_V (mR HO631 (fun _ hk => hk.1))) (fun k_ hk => by first | exact ⟨(.inr (hk.1)), hk.2⟩ | exact (.inr (hk)))⟩, ⟨qD HB⟩⟩
          · rw [if_neg c5] at H
            exact absurd H (by simp)
        · rw [if_neg c4] at H
          exact absurd H (by simp)
      · rw [if_neg c3] at H
        have c3b0 : decide (x9_1 < (l1.length : Int)) = false := decide_eq_false c3
        clear c3
        obtain rfl := Option.some.inj H
        go_wp2
        go_ret
        exact ⟨_, by first | rfl | (simp [errW_none, errW_some] <;> rfl) | (simp [*, errW_none, errW_some] <;> rfl), qV HO_0, qD HB⟩

end Go.Proofs.Ytlmlamkbedfmhaa.P
end
section
namespace Go.Proofs.Ytlmlamkbedfmhaa.P
open Go.RowKit Go.Proofs.YtlmlamkbedfmhaaW.PrintWords Go.Proofs.YtlmlamkbedfmhaaW.PrintLast Go.Proofs.YtlmlamkbedfmhaaW.PrintMore
attribute [local go_sem] max2_int min2_int max_two min_two max_three min_three max_four min_four   -- for this text's walks alone
set_option linter.unusedVariables false
set_option linter.unusedSimpArgs false

/-! ### impl_depths: function 99 -/
mutual
def impl_depths.l0 : Nat → List (List Int) → List (List Int) → List (ByteArray × Int) → Int → Option (List (ByteArray × Int))
  | 0, _, _, _, _ => none
  | k + 1, L, Q, M, i => if i < (Q.length : Int) then (if 0 ≤ i then ((impl_orderKey.f k (rd_L3 Q i)).bind fun key => (if key.size ≤ 1000 then (impl_depths.l1 k L Q M i (mget M key) 0) else none)) else none) else (some M)
def impl_depths.l1 : Nat → List (List Int) → List (List Int) → List (ByteArray × Int) → Int → Int → Int → Option (List (ByteArray × Int))
  | 0, _, _, _, _, _, _ => none
  | k + 1, L, Q, M, i, own, j => if j < (L.length : Int) then (if 0 ≤ j then (if 0 ≤ i then (if i < (Q.length : Int) then ((impl_laid.f k (rd_L3 Q i) (rd_L3 L j)).bind fun nx => ((impl_orderKey.f k nx).bind fun key => (if key.size ≤ 1000 then (if mhas M key = true then (impl_depths.l1 k L Q M i own (wrap64 (j + 1))) else (if Q.length < 5864062014805 then (if M.length < 1000000 then (impl_depths.l1 k L (Q ++ [nx]) ((key, wrap64 (own + 1)) :: M) i own (wrap64 (j + 1))) else none) else none)) else none))) else none) else none) else none) else (impl_depths.l0 k L Q M (wrap64 (i + 1)))
end
def impl_depths.f (k : Nat) (n : Int) : Option (List (ByteArray × Int)) := (impl_allLevels.f k n [] 0 []).bind fun L => ((impl_identity.f k n).bind fun p0 => ((impl_orderKey.f k p0).bind fun key => (if key.size ≤ 1000 then (impl_depths.l0 k L [p0] [(key, 0)] 0) else none)))
theorem impl_depths.key {s : ByteArray} (h : s.size ≤ 1000) : Go.keyOf Try.prog 9 (.string s) = some (.string s.data.toList) := Go.WideMaps.keyOf_string_mk Try.underlying9 (by unfold maxLen; omega)
theorem impl_depths.law : Go.Maps.Keyed Try.prog 9 := Go.Maps.string_keyed Try.underlying9
theorem impl_depths.zero (w : World) : (zeroValue 3).run Try.prog w = .ok (.int .i64 0) w := by kernel_rfl
theorem impl_depths.one {P : Program} {W w0 : World} {ops : Array Oper} {rest : List Oper} {o : Oper} {a : Act} {Q : Exit → Act → World → Prop} (hg : o.guard = none) {N' : Tmp} (hd : o.dst = some N') (base : Nat) {A : Option Addr} {c : Nat} {p0 : List Int}
    (hrun : (execOp a.eval o).run P W = .ok (.value (.slice (some ⟨W.heap.size, 0, none⟩) 1 1)) (W.alloc (.cells #[.slice A p0.length c] 22))) (hl : p0.length ≤ c) (hF : Kd.F (Kd.int .i64) W (fun _ => True) A p0.length p0) (HB : Below base w0 W) (hbase : base ≤ W.heap.size)
    (h : ∀ v1 w1, Kd.N (Kd.slice 3 (Kd.int .i64)) 22 w1 base (fun _ => True) v1 [p0] → Below base w0 w1 → Below W.heap.size W w1 → (∀ k, v1.ownBlock = some k → W.heap.size ≤ k) → wpList P ops Q rest (a.put o.dst v1) w1) : wpList P ops Q (o :: rest) a W :=
  Kd.N_lit (Kd.slice 3 (Kd.int .i64)) base 22 hg hd (xs := [p0]) (inner := [.slice A p0.length c]) (ok := fun _ => True) (okp := fun _ => True) hrun (Reps.one (Kd.FK_slice_mk hl hF) (Reps.none _ _)) (fun _ h => h) trivial HB hbase (by simp)
    (fun v1 w1 x y z u => h v1 w1 x y ⟨z.os, z.tape, z.output, z.size, fun k hk => z.block k hk (by simp)⟩ (fun k hk => by obtain ⟨b, e, hle⟩ := u; rw [e] at hk; cases hk; exact hle))
theorem impl_depths.mk {P : Program} {W : World} {ops : Array Oper} {rest : List Oper} {o : Oper} {a : Act} {Q : Exit → Act → World → Prop} (hg : o.guard = none) (t k : TypeId) (R : Value → Option (DataW Unit × List MemPlace)) (hop : o.op = Op.makeMap t none)
    (h : ∀ g w1, W.heap.size ≤ g → w1.ownsMap P k R g 0 (.map []) → Below W.heap.size W w1 → wpList P ops Q rest (a.put o.dst (.map (some g))) w1) : wpList P ops Q (o :: rest) a W := by
  refine wpList_plain hg fun K' hK' => ?_
  have hh := h W.heap.size (W.alloc (.map #[] 0)) (Nat.le_refl _) (World.ownsMap_made _ _ _ _) (below_alloc (Below.refl _ _) _)
  unfold Oper.wp
  simp only [execOp, hop]
  simp [run_makeMap, Result.andThen]
  exact hK' _ _ hh
theorem impl_depths.gate_insert {P : Program} {W : World} {ops : Array Oper} {rest : List Oper} {o : Oper} {a : Act} {Q : Exit → Act → World → Prop} {t : TypeId} {m x v : Operand} (_h : o.op = Op.insert t m x v) (h : wpList P ops Q rest a W → False → False) (h2 : wpList P ops Q (o :: rest) a W) : wpList P ops Q (o :: rest) a W := h2
def impl_depths.Post (w : World) (M : List (ByteArray × Int)) (e : Ending) (w' : World) : Prop :=
  ∃ g : Nat, e = .returned (.map (some g)) ∧ w'.ownsMap Try.prog 9 (plainElem Try.prog 3) g M.length (mapD M) ∧ Below w.heap.size w w' ∧ w.heap.size ≤ g
theorem impl_depths.look {M : List (ByteArray × Int)} {key : ByteArray} {c : Int} (h : (mapD M).atKey (.string key.data.toList) (.lit (.int .i64 0)) = .lit (.int .i64 c)) : mget M key = c := by
  rw [mapD_at] at h
  injection h with h
  injection h
theorem impl_depths.wf (c : Int) : (Lit.int .i64 (wrap64 c)).wf = true := RowKit.wrap64_wf c
theorem impl_depths.elem {W : World} {base : Nat} {ok : Nat → Prop} {A : Option Addr} {n c : Nat} {Q : List (List Int)} (h : Kd.N (Kd.slice 3 (Kd.int .i64)) 22 W base ok (.slice A n c) Q) (i : Int) (h0 : 0 ≤ i) (h1 : i < n) :
    ∃ ad A0 c0, A = some ad ∧ W.cell? (ad.add i.toNat) = some (.slice A0 (rd_L3 Q i).length c0) ∧ (rd_L3 Q i).length ≤ c0 ∧ Kd.V (Kd.int .i64) 3 W 0 (fun k_ => ok k_ ∧ some k_ ≠ (.slice A n c : Value).ownBlock) (.slice A0 (rd_L3 Q i).length c0) (rd_L3 Q i) := by
  obtain ⟨ad, _, _, e, _⟩ := at_L3 (Kd.N_reads' h).2.2 i h0 (by have := (Kd.N_reads' h).1; omega)
  subst e
  obtain ⟨cs, _, hK, hc⟩ := Kd.N_get h ([] : List Int) i h0 h1
  obtain ⟨A0, c0, rfl, hl, hF⟩ := Kd.FK_slice_open hK
  have hq := hc 0 _ rfl
  have h1' : i.toNat * (Kd.slice 3 (Kd.int .i64)).sz + 0 = i.toNat := by
    show i.toNat * 1 + 0 = i.toNat
    omega
  rw [h1'] at hq
  exact ⟨ad, A0, c0, rfl, hq, hl, Kd.V_mk hl hF⟩
set_option maxHeartbeats 8000000 in
set_option maxRecDepth 100000 in
theorem impl_depths.calls (k : Nat) (n : Int) (r : List (ByteArray × Int)) (w : World) (h : impl_depths.f k n = some r) :
    Calls Try.prog 99 #[.int .i64 n] w (impl_depths.Post w r) := by
  unfold impl_depths.f at h
  replace h := Option.bind_eq_some_iff.mp h
  obtain ⟨L, a1, h⟩ := h
  replace h := Option.bind_eq_some_iff.mp h
  obtain ⟨p0, a2, h⟩ := h
  replace h := Option.bind_eq_some_iff.mp h
  obtain ⟨key0, a3, h⟩ := h
  have c0 : key0.size ≤ 1000 := by
    by_cases c0 : key0.size ≤ 1000
    · exact c0
    · rw [if_neg c0] at h; exact absurd h (by simp)
  rw [if_pos c0] at h
  have H' := Aside0.mk h
  have A1 := Aside0.mk a1
  have A2 := Aside0.mk a2
  have A3 := Aside0.mk a3
  have C0 := Aside0.mk c0
  clear h a1 a2 a3 c0
  have HB := Aside0.mk (Below.refl w.heap.size w)
  have hmm := @run_makeMap Try.prog
  go_enter Try.func99, Try.ntmps99
  go_wp2_with (first
    | ((with_reducible refine gate_callee (f := 106) rfl ?_); refine gs (some 14) Try.func106 #[.int .i64 n, .slice none 0 0, .int .i64 0, .slice none 0 0] ?_; (refine (impl_allLevels.grows k w.heap.size n 0 [] [] L (.slice none 0 0) (.slice none 0 0) w _ ?s1 ?s2 ?s3 ?s4 A1.out).mono ?_); (case s1 => exact Kd.R_nil _ _ _ _ _); (case s2 => exact Kd.S_nil _ _ _ _ _); (case s3 => exact Below.refl _ _); (case s4 => exact Nat.le_refl _); rintro e w1 ⟨vL, rfl, hL, hb1, hg1, hat1⟩; refine ⟨_, rfl, ?_⟩; have HL := Aside0.mk hL; replace HB := Aside0.mk hb1; clear hL hb1 hg1 hat1)
    | ((with_reducible refine gate_callee (f := 165) rfl ?_); refine gs (some 16) Try.func165 #[.int .i64 n] ?_; (with_reducible refine (impl_identity.calls k n p0 _ A2.out).mono ?_); rintro e w2 ⟨v16, rfl, ho0, hb⟩; refine ⟨_, rfl, ?_⟩; replace HL := Aside0.mk (Kd.S_below (qS HL) hb); have HP := Aside0.mk ho0; replace HB := uD HB hb; clear hb ho0; obtain ⟨A16, c16, e16⟩ := Kd.R_slice HP.out; subst e16)
    | ((with_reducible refine gate_dst (N := 17) rfl ?_); refine impl_depths.one (w0 := w) ?hg (N' := 17) ?hd w.heap.size (A := A16) (c := c16) (p0 := p0) ?hr ?hl ?hF ?hB ?hS ?_; (case hd => rfl); (case hg => rfl); (case hr => first | (go_simp; done) | (go_simp; rfl)); (case hl => exact (Kd.R_reads' HP.out).2.1); (case hF => exact Kd.V_F (Kd.V_mono (Kd.R_V (base' := 0) (qR HP)) (fun _ _ => trivial))); (case hB => exact qD HB); (case hS => exact below_size (qD HB)); intro v17 w3 hq hb3 hb hat; have HQ := Aside0.mk hq; have HLV : Aside0 (Kd.V (Kd.slice 3 (Kd.int .i64)) 22 w3 0 (fun k_ => some k_ ≠ v17.ownBlock) vL L) := ⟨Kd.V_mono (Kd.S_V (Kd.S_old (qS HL) hb)) (fun k_ hk e_ => Nat.lt_irrefl _ (Nat.lt_of_lt_of_le hk.2 (hat k_ e_.symm)))⟩; replace HB := Aside0.mk hb3; clear hq hb3 hb hat; obtain ⟨A17, c17, e17⟩ := Kd.N_slice HQ.out; subst e17)
    | ((with_reducible refine gate_dst (N := 18) rfl ?_); refine impl_depths.mk ?hg 79 9 (plainElem Try.prog 3) ?ho ?_; (case hg => rfl); (case ho => rfl); intro gm w4 hge hm hb; have HM := Aside0.mk hm; have GM := Aside0.mk (Nat.le_trans (below_size (qD HB)) hge); replace HQ := Aside0.mk (Kd.N_mono (ok' := fun k_ => k_ ≠ gm) (Kd.N_old (qN HQ) hb) (fun k_ hk => Nat.ne_of_lt (Nat.lt_of_lt_of_le hk.2 hge))); replace HLV := Aside0.mk (Kd.V_mono (ok' := fun k_ => k_ ≠ gm ∧ some k_ ≠ (.slice A17 [p0].length c17 : Value).ownBlock) (Kd.V_old (qV HLV) hb) (fun k_ hk => ⟨Nat.ne_of_lt (Nat.lt_of_lt_of_le hk.2 hge), hk.1⟩)); replace HB := uD HB hb; clear hge hm hb; obtain ⟨ad17, A18, c18, e18, hx18, hl18, hi18⟩ := at_L3 (Kd.N_reads' HQ.out).2.2 0 (by decide) (by simp); cases e18; rw [show ((0 : Int)).toNat = 0 from rfl] at hx18; rw [Addr.add_zero'] at hx18; have HL18 := Aside0.mk hl18; have HI18 := Aside0.mk hi18; clear hl18 hi18)
    | ((with_reducible refine gate_callee (f := 103) rfl ?_); refine gs (some 22) Try.func103 #[.slice A18 (rd_L3 [p0] 0).length c18] ?_; (refine (impl_orderKey.calls k _ _ (rd_L3 [p0] 0) key0 _ ?s1 ?s2 A3.out).mono ?_); (case s1 => exact qC HI18.out); (case s2 => exact HL18.out); rintro e w5 ⟨rfl, hb⟩; refine ⟨_, rfl, ?_⟩; replace HM := Aside0.mk (HM.out.kept (grown_of_below hb none) (by simp)); replace HQ := Aside0.mk (Kd.N_below (qN HQ) hb); replace HLV := Aside0.mk (Kd.V_below (qV HLV) hb); replace HB := uD HB hb; clear hb)
    | ((with_reducible refine impl_depths.gate_insert (t := 79) rfl (fun _ h => h) ?_); refine wpList_insert_own _ rfl _ _ _ 79 rfl 9 3 impl_depths.law Try.underlying79 _ gm 0 _ rfl HM.out (by unfold maxLen; omega) _ _ _ rfl rfl (impl_depths.key C0.out) _ [] (plainElem_int Try.underlying3 (by decide)) ?_; intro w6 hm6 hg6; replace HM : Aside0 (w6.ownsMap Try.prog 9 (plainElem Try.prog 3) gm [(key0, (0 : Int))].length (mapD [(key0, (0 : Int))])) := ⟨hm6⟩; replace HQ := Aside0.mk (Kd.N_grown (qN HQ) hg6 (fun k_ hk e_ => hk (Option.some.inj e_))); replace HLV := Aside0.mk (Kd.V_grown (qV HLV) hg6 (fun k_ hk e_ => hk.1 (Option.some.inj e_))); replace HB := Aside0.mk (HB.out.grown hg6 HB.out.size (fun j_ hj_ => by cases hj_; exact GM.out)); clear hm6 hg6))
  obtain ⟨AL, cL, eL⟩ := Kd.V_slice HLV.out
  subst eL
  clear A1 A2 A3 C0 HL HP hx18 HL18 HI18
  go_loopg [4, 6] k (fun kq v4 v6 w' => ∃ (Q : List (List Int)) (M : List (ByteArray × Int)) (x6 : Int), v6 = .int .i64 x6 ∧ Aside0 (impl_depths.l0 kq L Q M x6 = some r) ∧ Aside0 (kq ≤ k) ∧ Aside0 (Kd.N (Kd.slice 3 (Kd.int .i64)) 22 w' w.heap.size (fun k_ => k_ ≠ gm) v4 Q) ∧ Aside0 (Kd.V (Kd.slice 3 (Kd.int .i64)) 22 w' 0 (fun k_ => k_ ≠ gm ∧ some k_ ≠ v4.ownBlock) (.slice AL L.length cL) L) ∧ Aside0 (w'.ownsMap Try.prog 9 (plainElem Try.prog 3) gm M.length (mapD M)) ∧ Aside0 (Below w.heap.size w w'))
  case atStart => exact ⟨[p0], [(key0, 0)], 0, rfl, H', ⟨Nat.le_refl _⟩, HQ, HLV, HM, HB⟩
  case round =>
    clear H' HQ HLV HM HB
    obtain ⟨Q, M, x6, rfl, HA, HK1, HQ, HLV, HM, HB⟩ := hrel
    cases gk with
    | zero => exact absurd HA.out (by simp [impl_depths.l0])
    | succ k1 =>
      obtain ⟨A4, c4, e4⟩ := Kd.N_slice HQ.out
      subst e4
      have H := HA.out
      clear HA
      simp only [impl_depths.l0] at H
      by_cases c1 : x6 < (Q.length : Int)
      · rw [if_pos c1] at H
        have c1b0 : decide (x6 < (Q.length : Int)) = true := decide_eq_true c1
        clear c1
        by_cases c2 : 0 ≤ x6
        · rw [if_pos c2] at H
          have c2b0 : decide (0 ≤ x6) = true := decide_eq_true c2
          clear c2
          replace H := Option.bind_eq_some_iff.mp H
          obtain ⟨key, A1, H⟩ := H
          have A1 := Aside0.mk A1
          by_cases c3 : key.size ≤ 1000
          · rw [if_pos c3] at H
            have C3 := Aside0.mk c3
            clear c3
            have H' := Aside0.mk H
            clear H
            have p3 : 0 ≤ (x6 : Int) := of_decide_eq_true c2b0
            have q3 : (x6 : Int) < ((Q.length : Int) : Int) := of_decide_eq_true c1b0
            obtain ⟨ad3, A3, c3, e3, hx3, hl3, hi3⟩ := at_L3 (Kd.N_reads' HQ.out).2.2 x6 p3 q3
            subst e3
            have HL3 := Aside0.mk hl3
            have HI3 := Aside0.mk hi3
            clear hl3 hi3
            replace p3 := eq_true p3
            replace q3 := eq_true q3
            go_wp2_with (first
              | ((with_reducible refine gate_callee (f := 103) rfl ?_); refine gs (some 35) Try.func103 #[.slice A3 (rd_L3 Q x6).length c3] ?_; (refine (impl_orderKey.calls k1 _ _ (rd_L3 Q x6) key _ ?s1 ?s2 A1.out).mono ?_); (case s1 => exact qC HI3.out); (case s2 => exact HL3.out); rintro e w5 ⟨rfl, hb⟩; refine ⟨_, rfl, ?_⟩; replace HM := Aside0.mk (HM.out.kept (grown_of_below hb none) (by simp)); replace HQ := Aside0.mk (Kd.N_below (qN HQ) hb); replace HLV := Aside0.mk (Kd.V_below (qV HLV) hb); replace HB := uD HB hb; clear hb)
              | (at_lookup; refine wpList_lookup_own_int _ rfl _ _ 79 rfl 9 3 .i64 impl_depths.law Try.underlying79 Try.underlying3 (impl_depths.zero _) gm M.length _ rfl HM.out _ _ rfl (impl_depths.key C3.out) ?_; intro cw hat hwc; obtain rfl : mget M key = cw := (impl_depths.look hat); clear hat hwc))
            clear hx3 HL3 HI3 p3 q3 A1
            go_loopg [4, 39] k1 (fun kq v4 v39 w' => ∃ (Q : List (List Int)) (M' : List (ByteArray × Int)) (x39 : Int), v39 = .int .i64 x39 ∧ Aside0 (impl_depths.l1 kq L Q M' x6 (mget M key) x39 = some r) ∧ Aside0 (kq ≤ k1) ∧ Aside0 (Kd.N (Kd.slice 3 (Kd.int .i64)) 22 w' w.heap.size (fun k_ => k_ ≠ gm) v4 Q) ∧ Aside0 (Kd.V (Kd.slice 3 (Kd.int .i64)) 22 w' 0 (fun k_ => k_ ≠ gm ∧ some k_ ≠ v4.ownBlock) (.slice AL L.length cL) L) ∧ Aside0 (w'.ownsMap Try.prog 9 (plainElem Try.prog 3) gm M'.length (mapD M')) ∧ Aside0 (Below w.heap.size w w'))
            case atStart => exact ⟨Q, M, 0, rfl, H', ⟨Nat.le_refl _⟩, HQ, HLV, HM, HB⟩
            case round =>
              clear H' HQ HLV HM HB c1b0 c2b0
              obtain ⟨Q, M', x39, rfl, HA, HK2, HQ, HLV, HM, HB⟩ := hrel
              cases gk with
              | zero => exact absurd HA.out (by simp [impl_depths.l1])
              | succ k2 =>
                obtain ⟨A4, c4', e4⟩ := Kd.N_slice HQ.out
                subst e4
                have H := HA.out
                clear HA
                simp only [impl_depths.l1] at H
                by_cases d1 : x39 < (L.length : Int)
                · rw [if_pos d1] at H
                  have d1b0 : decide (x39 < (L.length : Int)) = true := decide_eq_true d1
                  clear d1
                  by_cases d2 : 0 ≤ x39
                  · rw [if_pos d2] at H
                    have d2b0 : decide (0 ≤ x39) = true := decide_eq_true d2
                    clear d2
                    by_cases d3 : 0 ≤ x6
                    · rw [if_pos d3] at H
                      have d3b0 : decide (0 ≤ x6) = true := decide_eq_true d3
                      clear d3
                      by_cases d4 : x6 < (Q.length : Int)
                      · rw [if_pos d4] at H
                        have d4b0 : decide (x6 < (Q.length : Int)) = true := decide_eq_true d4
                        clear d4
                        replace H := Option.bind_eq_some_iff.mp H
                        obtain ⟨nx, B1, H⟩ := H
                        have B1 := Aside0.mk B1
                        replace H := Option.bind_eq_some_iff.mp H
                        obtain ⟨key2, B2, H⟩ := H
                        have B2 := Aside0.mk B2
                        by_cases c9 : key2.size ≤ 1000
                        · rw [if_pos c9] at H
                          have C9 := Aside0.mk c9
                          clear c9
                          have p5 : 0 ≤ (x6 : Int) := of_decide_eq_true d3b0
                          have q5 : (x6 : Int) < ((Q.length : Int) : Int) := of_decide_eq_true d4b0
                          obtain ⟨ad5, A5, c5, e5, hx5, hl5, he5⟩ := impl_depths.elem HQ.out x6 p5 q5
                          subst e5
                          have HE5 := Aside0.mk he5
                          clear hl5 he5
                          have p7 : 0 ≤ (x39 : Int) := of_decide_eq_true d2b0
                          have q7 : (x39 : Int) < ((L.length : Int) : Int) := of_decide_eq_true d1b0
                          obtain ⟨ad7, A7, c7, e7, hx7, hl7, hi7⟩ := at_L3 (Kd.V_reads' HLV.out).2.2 x39 p7 q7
                          subst e7
                          have HL7 := Aside0.mk hl7
                          have HI7 := Aside0.mk hi7
                          clear hl7 hi7
                          replace p5 := eq_true p5
                          replace q5 := eq_true q5
                          replace p7 := eq_true p7
                          replace q7 := eq_true q7
                          by_cases hh : mhas M' key2 = true
                          · rw [if_pos hh] at H
                            have H' := Aside0.mk H
                            clear H
                            go_wp2_with (first
                              | ((with_reducible refine gate_callee (f := 107) rfl ?_); refine gs (some 48) Try.func107 #[.slice A5 (rd_L3 Q x6).length c5, .slice A7 (rd_L3 L x39).length c7] ?_; (refine (impl_laid.calls k2 (fun k_ => k_ ≠ gm ∧ some k_ ≠ (.slice (some ad5) Q.length c4' : Value).ownBlock) A5 c5 (rd_L3 Q x6) A7 c7 (rd_L3 L x39) nx _ ?s1 ?s2 ?s3 B1.out).mono ?_); (case s1 => exact Kd.V_mk (Kd.V_reads' HE5.out).2.1 (Kd.V_F HE5.out)); (case s2 => exact qC HI7.out); (case s3 => exact HL7.out); rintro e w6 ⟨v6, rfl, hv, hb⟩; refine ⟨_, rfl, ?_⟩; have HN : Aside0 (Kd.V (Kd.int .i64) 3 w6 0 (fun k_ => k_ ≠ gm ∧ some k_ ≠ (.slice (some ad5) Q.length c4' : Value).ownBlock) v6 nx) := ⟨Kd.V_mono hv (fun k_ hk => hk.elim id (fun hge => ⟨Nat.ne_of_gt (Nat.lt_of_lt_of_le HM.out.lt hge), fun e_ => Nat.lt_irrefl _ (Nat.lt_of_lt_of_le (Kd.N_lt HQ.out k_ e_.symm) hge)⟩))⟩; replace HM := Aside0.mk (HM.out.kept (grown_of_below hb none) (by simp)); replace HQ := Aside0.mk (Kd.N_below (qN HQ) hb); replace HLV := Aside0.mk (Kd.V_below (qV HLV) hb); replace HB := uD HB hb; clear hb hv; obtain ⟨A10, c10, e10⟩ := Kd.V_slice HN.out; subst e10)
                              | ((with_reducible refine gate_callee (f := 103) rfl ?_); refine gs (some 52) Try.func103 #[.slice A10 nx.length c10] ?_; (refine (impl_orderKey.calls k2 _ _ nx key2 _ ?s1 ?s2 B2.out).mono ?_); (case s1 => exact qC (Kd.V_reads' HN.out).2.2); (case s2 => exact (Kd.V_reads' HN.out).2.1); rintro e w7 ⟨rfl, hb⟩; refine ⟨_, rfl, ?_⟩; replace HM := Aside0.mk (HM.out.kept (grown_of_below hb none) (by simp)); replace HQ := Aside0.mk (Kd.N_below (qN HQ) hb); replace HLV := Aside0.mk (Kd.V_below (qV HLV) hb); replace HN := Aside0.mk (Kd.V_below (qV HN) hb); replace HB := uD HB hb; clear hb)
                              | (at_lookup; refine wpList_lookup_own_ok_int _ rfl _ _ 79 rfl 9 3 .i64 impl_depths.law Try.underlying79 Try.underlying3 (impl_depths.zero _) gm M'.length _ rfl HM.out _ _ rfl (impl_depths.key C9.out) ?_; intro cw hat hwc; rw [mapD_has, hh]; clear hat hwc))
                            go_roundg k2
                            case measure => have := HK2.out; omega
                            case rel => exact ⟨Q, M', (wrap64 (x39 + 1)), (by first | rfl | (simp; done) | (simp [*]; done) | (simp [bne]; done)), H', ⟨by have := HK2.out; omega⟩, HQ, HLV, HM, HB⟩
                          · rw [if_neg hh] at H
                            replace hh : mhas M' key2 = false := by simpa using hh
                            by_cases c10 : Q.length < 5864062014805
                            · rw [if_pos c10] at H
                              have LM1 := Aside0.mk c10
                              clear c10
                              by_cases c11 : M'.length < 1000000
                              · rw [if_pos c11] at H
                                have LM2 := Aside0.mk c11
                                clear c11
                                have H' := Aside0.mk H
                                clear H
                                go_wp2_with (first
                                  | ((with_reducible refine gate_callee (f := 107) rfl ?_); refine gs (some 48) Try.func107 #[.slice A5 (rd_L3 Q x6).length c5, .slice A7 (rd_L3 L x39).length c7] ?_; (refine (impl_laid.calls k2 (fun k_ => k_ ≠ gm ∧ some k_ ≠ (.slice (some ad5) Q.length c4' : Value).ownBlock) A5 c5 (rd_L3 Q x6) A7 c7 (rd_L3 L x39) nx _ ?s1 ?s2 ?s3 B1.out).mono ?_); (case s1 => exact Kd.V_mk (Kd.V_reads' HE5.out).2.1 (Kd.V_F HE5.out)); (case s2 => exact qC HI7.out); (case s3 => exact HL7.out); rintro e w6 ⟨v6, rfl, hv, hb⟩; refine ⟨_, rfl, ?_⟩; have HN : Aside0 (Kd.V (Kd.int .i64) 3 w6 0 (fun k_ => k_ ≠ gm ∧ some k_ ≠ (.slice (some ad5) Q.length c4' : Value).ownBlock) v6 nx) := ⟨Kd.V_mono hv (fun k_ hk => hk.elim id (fun hge => ⟨Nat.ne_of_gt (Nat.lt_of_lt_of_le HM.out.lt hge), fun e_ => Nat.lt_irrefl _ (Nat.lt_of_lt_of_le (Kd.N_lt HQ.out k_ e_.symm) hge)⟩))⟩; replace HM := Aside0.mk (HM.out.kept (grown_of_below hb none) (by simp)); replace HQ := Aside0.mk (Kd.N_below (qN HQ) hb); replace HLV := Aside0.mk (Kd.V_below (qV HLV) hb); replace HB := uD HB hb; clear hb hv; obtain ⟨A10, c10, e10⟩ := Kd.V_slice HN.out; subst e10)
                                  | ((with_reducible refine gate_callee (f := 103) rfl ?_); refine gs (some 52) Try.func103 #[.slice A10 nx.length c10] ?_; (refine (impl_orderKey.calls k2 _ _ nx key2 _ ?s1 ?s2 B2.out).mono ?_); (case s1 => exact qC (Kd.V_reads' HN.out).2.2); (case s2 => exact (Kd.V_reads' HN.out).2.1); rintro e w7 ⟨rfl, hb⟩; refine ⟨_, rfl, ?_⟩; replace HM := Aside0.mk (HM.out.kept (grown_of_below hb none) (by simp)); replace HQ := Aside0.mk (Kd.N_below (qN HQ) hb); replace HLV := Aside0.mk (Kd.V_below (qV HLV) hb); replace HN := Aside0.mk (Kd.V_below (qV HN) hb); replace HB := uD HB hb; clear hb)
                                  | (at_lookup; refine wpList_lookup_own_ok_int _ rfl _ _ 79 rfl 9 3 .i64 impl_depths.law Try.underlying79 Try.underlying3 (impl_depths.zero _) gm M'.length _ rfl HM.out _ _ rfl (impl_depths.key C9.out) ?_; intro cw hat hwc; rw [mapD_has, hh]; clear hat hwc)
                                  | ((with_reducible refine gate_callee (f := 103) rfl ?_); refine gs (some 60) Try.func103 #[.slice A10 nx.length c10] ?_; (refine (impl_orderKey.calls k2 _ _ nx key2 _ ?s1 ?s2 B2.out).mono ?_); (case s1 => exact qC (Kd.V_reads' HN.out).2.2); (case s2 => exact (Kd.V_reads' HN.out).2.1); rintro e w7 ⟨rfl, hb⟩; refine ⟨_, rfl, ?_⟩; replace HM := Aside0.mk (HM.out.kept (grown_of_below hb none) (by simp)); replace HQ := Aside0.mk (Kd.N_below (qN HQ) hb); replace HLV := Aside0.mk (Kd.V_below (qV HLV) hb); replace HN := Aside0.mk (Kd.V_below (qV HN) hb); replace HB := uD HB hb; clear hb)
                                  | (at_mapUpdate; refine wpList_mapUpdate_own _ rfl _ _ _ 79 rfl 9 3 impl_depths.law Try.underlying79 _ gm M'.length _ rfl HM.out (by unfold maxLen; have := LM2.out; omega) _ _ _ rfl rfl (impl_depths.key C9.out) _ [] (plainElem_int Try.underlying3 (impl_depths.wf _)) ?_; intro w8 hm8 hg8; replace HM : Aside0 (w8.ownsMap Try.prog 9 (plainElem Try.prog 3) gm ((key2, wrap64 ((mget M key) + 1)) :: M').length (mapD ((key2, wrap64 ((mget M key) + 1)) :: M'))) := ⟨hm8⟩; replace HQ := Aside0.mk (Kd.N_grown (qN HQ) hg8 (fun k_ hk e_ => hk (Option.some.inj e_))); replace HLV := Aside0.mk (Kd.V_grown (qV HLV) hg8 (fun k_ hk e_ => hk.1 (Option.some.inj e_))); replace HN := Aside0.mk (Kd.V_grown (qV HN) hg8 (fun k_ hk e_ => hk.1 (Option.some.inj e_))); replace HB := Aside0.mk (HB.out.grown hg8 HB.out.size (fun j_ hj_ => by cases hj_; exact GM.out)); clear hm8 hg8)
                                  | ((with_reducible refine gate_builtin (b := .append) (xs := #[.tmp 63, .tmp 65]) rfl ?_); at_builtin; refine Kd.N_append (Kd.slice 3 (Kd.int .i64)) (w0 := w) w.heap.size rfl (.tmp 63) (.tmp 65) 42 22 (.slice none 0 0) 24 rfl Try.underlying42 info22 rfl (by decide) (by omega) (.slice (some ad5) Q.length c4') Q nx [.slice A10 nx.length c10] (fun k_ => k_ ≠ gm) (fun k_ => k_ ≠ gm ∧ some k_ ≠ (.slice (some ad5) Q.length c4' : Value).ownBlock) rfl rfl ?aP (fun _ hk => hk) ?aF ?aO ?aB ?aS ?aL ?_; (case aP => exact Kd.FK_slice_mk (Kd.V_reads' HN.out).2.1 (Kd.V_F HN.out)); (case aF => exact (fun k_ hk => Nat.ne_of_gt (Nat.lt_of_lt_of_le HM.out.lt hk))); (case aO => exact HQ.out); (case aB => exact HB.out); (case aS => exact below_size HB.out); (case aL => have := LM1.out; omega); intro v9 w9 hv9 hb9 hg9 hat9; replace HLV := Aside0.mk (Kd.V_after (ok := fun k_ => k_ ≠ gm) (qV HLV) hg9 hat9); replace HM := Aside0.mk (HM.out.kept hg9 (fun e_ => HQ.out.1 gm e_.symm rfl)); replace HQ := Aside0.mk hv9; replace HB := Aside0.mk hb9; clear hv9 hb9 hg9 hat9 HN))
                                go_roundg k2
                                case measure => have := HK2.out; omega
                                case rel => exact ⟨Q ++ [nx], ((key2, wrap64 ((mget M key) + 1)) :: M'), (wrap64 (x39 + 1)), (by first | rfl | (simp; done) | (simp [*]; done) | (simp [bne]; done)), H', ⟨by have := HK2.out; omega⟩, HQ, HLV, HM, HB⟩
                              · rw [if_neg c11] at H
                                exact absurd H (by simp)
                            · rw [if_neg c10] at H
                              exact absurd H (by simp)
                        · rw [if_neg c9] at H
                          exact absurd H (by simp)
                      · rw [if_neg d4] at H
                        exact absurd H (by simp)
                    · rw [if_neg d3] at H
                      exact absurd H (by simp)
                  · rw [if_neg d2] at H
                    exact absurd H (by simp)
                · rw [if_neg d1] at H
                  have d1b0 : decide (x39 < (L.length : Int)) = false := decide_eq_false d1
                  clear d1
                  have H' := Aside0.mk H
                  clear H
                  go_wp2
                  go_roundg k2
                  case measure => have := HK1.out; have := HK2.out; omega
                  case rel => exact ⟨Q, M', (wrap64 (x6 + 1)), (by first | rfl | (simp; done) | (simp [*]; done) | (simp [bne]; done)), H', ⟨by have := HK1.out; have := HK2.out; omega⟩, HQ, HLV, HM, HB⟩
          · rw [if_neg c3] at H
            exact absurd H (by simp)
        · rw [if_neg c2] at H
          exact absurd H (by simp)
      · rw [if_neg c1] at H
        have c1b0 : decide (x6 < (Q.length : Int)) = false := decide_eq_false c1
        clear c1
        obtain rfl := Option.some.inj H
        go_wp2
        go_ret
        exact ⟨gm, rfl, HM.out, HB.out, GM.out⟩

end Go.Proofs.Ytlmlamkbedfmhaa.P
end
section
namespace Go.Proofs.Ytlmlamkbedfmhaa.P
open Go.RowKit Go.Proofs.YtlmlamkbedfmhaaW.PrintWords Go.Proofs.YtlmlamkbedfmhaaW.PrintLast Go.Proofs.YtlmlamkbedfmhaaW.PrintMore
attribute [local go_sem] max2_int min2_int max_two min_two max_three min_three max_four min_four   -- for this text's walks alone
set_option linter.unusedVariables false
set_option linter.unusedSimpArgs false

/-! ### impl_LeastDepth: function 24 -/
def impl_LeastDepth.f (k : Nat) (l0 : List Int) : Option (Int × Bool) := (impl_isMade.f k l0).bind fun t => (if t = true then ((impl_depths.f k (l0.length : Int)).bind fun M => ((impl_orderKey.f k l0).bind fun key => (if key.size ≤ 1000 then some (mget M key, true) else none))) else some (0, false))
set_option maxHeartbeats 8000000 in
set_option maxRecDepth 100000 in
theorem impl_LeastDepth.calls (k : Nat) (A0 : Option Addr) (c0 : Nat) (l0 : List Int) (r1 : Int) (r2 : Bool) (w : World) (hr0 : Kd.C (Kd.int .i64) w A0 l0.length l0) (hc0 : l0.length ≤ c0) (h : impl_LeastDepth.f k l0 = some (r1, r2)) :
    Calls Try.prog 24 #[.slice A0 l0.length c0] w fun e w' => e = .returned (.tuple #[.int .i64 r1, .bool r2]) ∧ Below w.heap.size w w' := by
  have HR0 := Aside0.mk hr0
  have HC0 := Aside0.mk hc0
  clear hr0 hc0
  have HB := Aside0.mk (Below.refl w.heap.size w)
  unfold impl_LeastDepth.f at h
  replace h := Option.bind_eq_some_iff.mp h
  obtain ⟨t, a1, H⟩ := h
  have A1 := Aside0.mk a1
  clear a1
  by_cases c1 : t = true
  · rw [if_pos c1] at H
    subst c1
    replace H := Option.bind_eq_some_iff.mp H
    obtain ⟨M, a2, H⟩ := H
    have A2 := Aside0.mk a2
    clear a2
    replace H := Option.bind_eq_some_iff.mp H
    obtain ⟨key, a3, H⟩ := H
    have A3 := Aside0.mk a3
    clear a3
    by_cases c2 : key.size ≤ 1000
    · rw [if_pos c2] at H
      have C2 := Aside0.mk c2
      clear c2
      simp only [Option.some.injEq, Prod.mk.injEq] at H
      obtain ⟨rfl, rfl⟩ := H
      go_enter Try.func24, Try.ntmps24
      go_wp2_with (first
        | ((with_reducible refine gate_callee (f := 102) rfl ?_); refine gs (some 5) Try.func102 #[.slice A0 l0.length c0] ?_; (with_reducible refine (impl_isMade.calls k _ _ l0 true _ ?side1 ?side2 A1.out).mono ?_); (case side1 => exact qC HR0.out); (case side2 => exact HC0.out); rintro e w' ⟨rfl, ⟨nd, rfl⟩⟩; refine ⟨_, rfl, ?_⟩)
        | ((with_reducible refine gate_callee (f := 99) rfl ?_); refine gs (some 9) Try.func99 #[.int .i64 (l0.length : Int)] ?_; (with_reducible refine (impl_depths.calls k (l0.length : Int) M _ A2.out).mono ?_); rintro e w8 ⟨gm, rfl, hm, hb, hge⟩; refine ⟨_, rfl, ?_⟩; have HM := Aside0.mk hm; replace HR0 := Aside0.mk (Kd.C_below (qC HR0.out) hb); replace HB := uD HB hb; clear hm hb hge)
        | ((with_reducible refine gate_callee (f := 103) rfl ?_); refine gs (some 11) Try.func103 #[.slice A0 l0.length c0] ?_; (refine (impl_orderKey.calls k _ _ l0 key _ ?s1 ?s2 A3.out).mono ?_); (case s1 => exact qC HR0.out); (case s2 => exact HC0.out); rintro e w9 ⟨rfl, hb⟩; refine ⟨_, rfl, ?_⟩; replace HM := Aside0.mk (HM.out.kept (grown_of_below hb none) (by simp)); replace HB := uD HB hb; clear hb)
        | (at_lookup; refine wpList_lookup_own_int _ rfl _ _ 79 rfl 9 3 .i64 impl_depths.law Try.underlying79 Try.underlying3 (impl_depths.zero _) gm M.length _ rfl HM.out _ _ rfl (impl_depths.key C2.out) ?_; intro cw hat hwc; obtain rfl : mget M key = cw := (impl_depths.look hat); clear hat hwc))
      go_ret2
      exact ⟨rfl, qD HB⟩
    · rw [if_neg c2] at H
      exact absurd H (by simp)
  · rw [if_neg c1] at H
    obtain rfl : t = false := by simpa using c1
    simp only [Option.some.injEq, Prod.mk.injEq] at H
    obtain ⟨rfl, rfl⟩ := H
    go_enter Try.func24, Try.ntmps24
    go_wp2_with (first
      | ((with_reducible refine gate_callee (f := 102) rfl ?_); refine gs (some 5) Try.func102 #[.slice A0 l0.length c0] ?_; (with_reducible refine (impl_isMade.calls k _ _ l0 false _ ?side1 ?side2 A1.out).mono ?_); (case side1 => exact qC HR0.out); (case side2 => exact HC0.out); rintro e w' ⟨rfl, ⟨nd, rfl⟩⟩; refine ⟨_, rfl, ?_⟩))
    go_ret2
    exact ⟨rfl, qD HB⟩

end Go.Proofs.Ytlmlamkbedfmhaa.P
end
section
namespace Go.Proofs.Ytlmlamkbedfmhaa.P
open Go.RowKit Go.Proofs.YtlmlamkbedfmhaaW.PrintWords Go.Proofs.YtlmlamkbedfmhaaW.PrintLast Go.Proofs.YtlmlamkbedfmhaaW.PrintMore
attribute [local go_sem] max2_int min2_int max_two min_two max_three min_three max_four min_four   -- for this text's walks alone
set_option linter.unusedVariables false
set_option linter.unusedSimpArgs false

/-! ### laws_FnExactLeastDepth: function 5 -/
def laws_FnExactLeastDepth.j0 : Nat → List Int → List Int → Bool → Option (Bool)
  | 0, _, _, _ => none
  | k + 1, x0, x5, x31 => if x31 = true then (none) else ((laws_toIntS.f k x0).bind fun t687 => ((laws_eqIntS.f k x5 t687).bind fun t690 => (if t690 = true then (some true) else (none))))
def laws_FnExactLeastDepth.f (k : Nat) (l0 : List Int) : Option (Bool) := if (l0.length : Int) > 1048576 then (some true) else ((laws_toIntS.f k l0).bind fun t677 => ((spec_LeastDepth.f k t677).bind fun bt680 => ((laws_toIntS.f k l0).bind fun t682 => ((impl_LeastDepth.f k t682).bind fun bt685 => (if bt685.1 = bt680.1 then (laws_FnExactLeastDepth.j0 k l0 t682 (bt685.2 != bt680.2)) else (none))))))
set_option maxHeartbeats 8000000 in
set_option maxRecDepth 100000 in
theorem laws_FnExactLeastDepth.calls (k : Nat) (A0 : Option Addr) (c0 : Nat) (l0 : List Int) (r : Bool) (w : World) (hr0 : Kd.C (Kd.int .i64) w A0 l0.length l0) (hc0 : l0.length ≤ c0) (h : laws_FnExactLeastDepth.f k l0 = some r) :
    Calls Try.prog 5 #[.slice A0 l0.length c0] w fun e w' => e = .returned (.bool r) ∧ Below w.heap.size w w' := by
  have HR0 := Aside0.mk hr0
  have HC0 := Aside0.mk hc0
  clear hr0 hc0
  have HB := Aside0.mk (Below.refl w.heap.size w)
  have H : (if (l0.length : Int) > 1048576 then (some true) else ((laws_toIntS.f k l0).bind fun t677 => ((spec_LeastDepth.f k t677).bind fun bt680 => ((laws_toIntS.f k l0).bind fun t682 => ((impl_LeastDepth.f k t682).bind fun bt685 => (if bt685.1 = bt680.1 then (laws_FnExactLeastDepth.j0 k l0 t682 (bt685.2 != bt680.2)) else (none))))))) = some r := h
  clear h
  by_cases c2 : (l0.length : Int) > 1048576
  · rw [if_pos c2] at H
    have c2b0 : decide (1048576 < (l0.length : Int)) = true := decide_eq_true c2
    have c2b1 : decide (1048576 < l0.length) = true := decide_eq_true (by omega)
    clear c2
    obtain rfl := Option.some.inj H
    go_enter Try.func5, Try.ntmps5
    go_wp2
    go_ret
    exact ⟨by first | rfl | (simp [errW_none, errW_some] <;> rfl) | (simp [*, errW_none, errW_some] <;> rfl), qD HB⟩
  · rw [if_neg c2] at H
    have c2b0 : decide (1048576 < (l0.length : Int)) = false := decide_eq_false c2
    have c2b1 : decide (1048576 < l0.length) = false := decide_eq_false (by omega)
    clear c2
    replace H := Option.bind_eq_some_iff.mp H
    obtain ⟨t677, A30, H⟩ := H
    replace H : ((spec_LeastDepth.f k t677).bind fun bt680 => ((laws_toIntS.f k l0).bind fun t682 => ((impl_LeastDepth.f k t682).bind fun bt685 => (if bt685.1 = bt680.1 then (laws_FnExactLeastDepth.j0 k l0 t682 (bt685.2 != bt680.2)) else (none))))) = some r := H
    have A3 := Aside0.mk A30
    clear A30
    replace H := Option.bind_eq_some_iff.mp H
    obtain ⟨⟨t680, t681⟩, A40, H⟩ := H
    replace H : ((laws_toIntS.f k l0).bind fun t682 => ((impl_LeastDepth.f k t682).bind fun bt685 => (if bt685.1 = t680 then (laws_FnExactLeastDepth.j0 k l0 t682 (bt685.2 != t681)) else (none)))) = some r := H
    have A4 := Aside0.mk A40
    clear A40
    replace H := Option.bind_eq_some_iff.mp H
    obtain ⟨t682, A50, H⟩ := H
    replace H : ((impl_LeastDepth.f k t682).bind fun bt685 => (if bt685.1 = t680 then (laws_FnExactLeastDepth.j0 k l0 t682 (bt685.2 != t681)) else (none))) = some r := H
    have A5 := Aside0.mk A50
    clear A50
    replace H := Option.bind_eq_some_iff.mp H
    obtain ⟨⟨t685, t686⟩, A60, H⟩ := H
    replace H : (if t685 = t680 then (laws_FnExactLeastDepth.j0 k l0 t682 (t686 != t681)) else (none)) = some r := H
    have A6 := Aside0.mk A60
    clear A60
    have HC7 := Aside0.mk H
    clear H
    go_enter Try.func5, Try.ntmps5
    go_upto_region 6 with (first | ((with_reducible refine gate_callee (f := 23) rfl ?_); refine gs (some 13) Try.func23 #[.slice A0 l0.length c0] ?_; (with_reducible refine (laws_toIntS.calls k _ _ l0 t677 _ ?side1 ?side2 A3.out).mono ?_); (case side1 => repeat (first | exact HR0.out | (with_reducible refine Kd.C_alloc ?_ _) | (with_reducible refine Kd.C_drewN ?_ _) | (with_reducible refine Kd.C_drew ?_))); (case side2 => exact HC0.out); rintro e w8 ⟨v678, rfl, ho0, hb⟩; refine ⟨_, rfl, ?_⟩; have HO679 := Aside0.mk (Kd.R_lower ho0 (below_size (qD HB))); replace HB := uD HB hb; (try clear hb); (try clear hb2); (try clear hk); (try clear hi); (try clear ho0); obtain ⟨Ao9, co9, eo9⟩ := Kd.R_slice HO679.out; subst eo9) | ((with_reducible refine gate_callee (f := 22) rfl ?_); refine gs (some 14) Try.func22 #[.slice Ao9 t677.length co9] ?_; (with_reducible refine (spec_LeastDepth.calls k _ _ t677 t680 t681 _ ?side1 ?side2 A4.out).mono ?_); (case side1 => exact qC (Kd.R_reads' HO679.out).2.2); (case side2 => exact (Kd.R_reads' HO679.out).2.1); rintro e w10 ⟨rfl, hb⟩; refine ⟨_, rfl, ?_⟩; replace HO679 := uR HO679 hb; replace HB := uD HB hb; (try clear hb); (try clear hb2); (try clear hk); (try clear hi)) | ((with_reducible refine gate_callee (f := 23) rfl ?_); refine gs (some 18) Try.func23 #[.slice A0 l0.length c0] ?_; (with_reducible refine (laws_toIntS.calls k _ _ l0 t682 _ ?side1 ?side2 A5.out).mono ?_); (case side1 => exact qC (Kd.C_below HR0.out HB.out)); (case side2 => exact HC0.out); rintro e w11 ⟨v683, rfl, ho0, hb⟩; refine ⟨_, rfl, ?_⟩; have HO684 := Aside0.mk (Kd.R_lower (Kd.R_new' ho0 (Kd.R_lt (qR HO679))) (below_size (qD HB))); replace HO679 := eR HO679 ho0 hb; replace HB := uD HB hb; (try clear hb); (try clear hb2); (try clear hk); (try clear hi); (try clear ho0); obtain ⟨Ao12, co12, eo12⟩ := Kd.R_slice HO684.out; subst eo12) | ((with_reducible refine gate_callee (f := 24) rfl ?_); refine gs (some 21) Try.func24 #[.slice Ao12 t682.length co12] ?_; (with_reducible refine (impl_LeastDepth.calls k _ _ t682 t685 t686 _ ?side1 ?side2 A6.out).mono ?_); (case side1 => exact qC (Kd.R_reads' HO684.out).2.2); (case side2 => exact (Kd.R_reads' HO684.out).2.1); rintro e w13 ⟨rfl, hb⟩; refine ⟨_, rfl, ?_⟩; replace HO679 := uR HO679 hb; replace HO684 := uR HO684 hb; replace HB := uD HB hb; (try clear hb); (try clear hb2); (try clear hk); (try clear hi)))
    (try simp only [Act.put, List.setIfInBounds_toArray, List.set_cons_zero, List.set_cons_succ])
    go_cut [31] (fun v31 wc => ∃ (kq : Nat) (x31_6 : Bool), v31 = .bool x31_6 ∧ Aside0 (laws_FnExactLeastDepth.j0 kq l0 t682 x31_6 = some r) ∧ Aside0 (kq ≤ k) ∧ Aside0 (Kd.R (Kd.int .i64) 3 wc w.heap.size (fun _ => True) (.slice Ao12 t682.length co12) t682) ∧ Aside0 (Below w.heap.size w wc))
    case first =>
      have H := HC7.out
      clear HC7
      by_cases c14 : t685 = t680
      · rw [if_pos c14] at H
        have c14b0 : (t685 == t680) = true := beq_iff_eq.mpr c14
        have c14b1 : (t685 != t680) = false := bne_eq_false_iff_eq.mpr c14
        clear c14
        (first | rw [c14b0] | (simp only [i64_w, i32_w]; rw [c14b0]) | skip)
        have H' := Aside0.mk H
        clear H
        go_wp2
        go_meet
        case rel => exact ⟨_, ((t686 != t681)), (by first | rfl | (simp; done) | (simp [*]; done) | (simp [bne]; done)), H', ⟨by first | omega | exact Nat.le_refl _⟩, ⟨mR HO684 (fun _ hk => trivial)⟩, ⟨qD HB⟩⟩
      · rw [if_neg c14] at H
        exact absurd H (by simp)
    case rest =>
      clear HC7
      try clear c1
      try clear c2
      try clear c2b0
      try clear c2b1
      try clear p2
      try clear c5
      try clear c14
      try clear c14b0
      try clear c14b1
      obtain ⟨kq, x31_6, rfl, HA, HJ6, HO_5, HB⟩ := hcut
      cases kq with
      | zero => exact absurd HA.out (by simp [laws_FnExactLeastDepth.j0])
      | succ kj6 =>
        have H := HA.out
        clear HA
        simp only [laws_FnExactLeastDepth.j0] at H
        by_cases c15 : x31_6 = true
        · subst c15
          have H1 : (none) = some r := by rw [if_pos rfl] at H; exact H
          exact absurd H1 (by simp)
        · replace c15 := Bool.eq_false_iff.mpr c15
          subst c15
          have H1 : ((laws_toIntS.f kj6 l0).bind fun t687 => ((laws_eqIntS.f kj6 t682 t687).bind fun t690 => (if t690 = true then (some true) else (none)))) = some r := by rw [if_neg (show ¬ (false = true) by decide)] at H; exact H
          clear H
          have H := H1
          clear H1
          replace H := Option.bind_eq_some_iff.mp H
          obtain ⟨t687, A160, H⟩ := H
          replace H : ((laws_eqIntS.f kj6 t682 t687).bind fun t690 => (if t690 = true then (some true) else (none))) = some r := H
          have A16 := Aside0.mk A160
          clear A160
          replace H := Option.bind_eq_some_iff.mp H
          obtain ⟨t690, A170, H⟩ := H
          replace H : (if t690 = true then (some true) else (none)) = some r := H
          have A17 := Aside0.mk A170
          clear A170
          by_cases c18 : t690 = true
          · subst c18
            have H1 : (some true) = some r := by rw [if_pos rfl] at H; exact H
            clear H
            have H := H1
            clear H1
            obtain rfl := Option.some.inj H
            go_wp2_with (first | ((with_reducible refine gate_callee (f := 23) rfl ?_); refine gs (some 34) Try.func23 #[.slice A0 l0.length c0] ?_; (with_reducible refine (laws_toIntS.calls kj6 _ _ l0 t687 _ ?side1 ?side2 A16.out).mono ?_); (case side1 => exact qC (Kd.C_below HR0.out HB.out)); (case side2 => exact HC0.out); rintro e w19 ⟨v688, rfl, ho0, hb⟩; refine ⟨_, rfl, ?_⟩; have HO689 := Aside0.mk (Kd.R_lower (Kd.R_new' ho0 (Kd.R_lt (qR HO_5))) (below_size (qD HB))); replace HO_5 := eR HO_5 ho0 hb; replace HB := uD HB hb; (try clear hb); (try clear hb2); (try clear hk); (try clear hi); (try clear ho0); obtain ⟨Ao20, co20, eo20⟩ := Kd.R_slice HO689.out; subst eo20) | ((with_reducible refine gate_callee (f := 19) rfl ?_); refine gs (some 35) Try.func19 #[.slice Ao12 t682.length co12, .slice Ao20 t687.length co20] ?_; (with_reducible refine (laws_eqIntS.calls kj6 _ _ t682 _ _ t687 true _ ?side1 ?side2 ?side3 ?side4 A17.out).mono ?_); (case side1 => exact qC (Kd.R_reads' HO_5.out).2.2); (case side2 => exact (Kd.R_reads' HO_5.out).2.1); (case side3 => exact qC (Kd.R_reads' HO689.out).2.2); (case side4 => exact (Kd.R_reads' HO689.out).2.1); rintro e w' ⟨rfl, ⟨nd, rfl⟩⟩; refine ⟨_, rfl, ?_⟩))
            go_ret
            exact ⟨by first | rfl | (simp [errW_none, errW_some] <;> rfl) | (simp [*, errW_none, errW_some] <;> rfl), qD HB⟩
          · replace c18 := Bool.eq_false_iff.mpr c18
            subst c18
            have H1 : (none) = some r := by rw [if_neg (show ¬ (false = true) by decide)] at H; exact H
            exact absurd H1 (by simp)
/-- THE ONE PURE STATEMENT of laws_FnExactLeastDepth: yours. -/
def laws_FnExactLeastDepth.Pure : Prop := ∀ (l0 : List Int), l0.length ≤ maxLen → l0.length * 8 ≤ 140737488351232 → (∀ x ∈ l0, (Lit.int .i64 x).wf = true) → ∃ k, laws_FnExactLeastDepth.f k l0 = some true
theorem laws_FnExactLeastDepth.walk (P : laws_FnExactLeastDepth.Pure) (a0 : Option Addr) (len0 cap0 : Nat) (z0 : List Int) (w : World) (w0 : (a0 = none ∧ len0 = 0 ∧ cap0 = 0 ∧ z0 = []) ∨ ∃ x, a0 = some x ∧ len0 ≤ cap0 ∧ cap0 ≤ maxLen ∧ z0.length = cap0 ∧ (∀ i, i < z0.length → w.cell? (x.add i) = some (.int .i64 (z0.getD i 0))) ∧ ∀ n ∈ z0, (Lit.int .i64 n).wf = true) (y0 : len0 * 8 ≤ 140737488351232) :
    Calls Try.prog 5 #[.slice a0 len0 cap0] w fun e w' => e = .returned (.bool true) ∧ Below w.heap.size w w' := by
  obtain ⟨l0, rfl, hr0, hm0, hw0, hc0⟩ := ReadsInt.ofRowC w0
  obtain ⟨k, h⟩ := P l0 hm0 y0 hw0
  refine (laws_FnExactLeastDepth.calls k _ _ l0 true w (Kd.C_of_reads (d := (0 : Int)) (h1 := fun _ => rfl) hr0) hc0 h).mono ?_
  rintro e w' ⟨rfl, hd⟩
  exact ⟨rfl, hd⟩

end Go.Proofs.Ytlmlamkbedfmhaa.P
end
section
set_option linter.unusedVariables false
set_option linter.unusedSimpArgs false
namespace Go.Proofs.Ytlmlamkbedfmhaa.P
open Go.RowKit Go.Proofs.YtlmlamkbedfmhaaW.PrintWords Go.Proofs.YtlmlamkbedfmhaaW.PrintLast Go.Proofs.YtlmlamkbedfmhaaW.PrintMore

/-! ### orders reached by levels: plain lists -/
theorem isP_perm {n : Nat} {p q : List Int} (h : isP n p) (e : q.Perm p) : isP n q :=
  ⟨e.length_eq.trans h.1, e.nodup_iff.2 h.2.1, fun v => (e.mem_iff).trans (h.2.2 v)⟩
def laidP (p : List Int) (level : List Int) : List Int := level.foldl (fun p r => swapAt p r.toNat) p
theorem laidP_perm (level : List Int) : ∀ p : List Int, (laidP p level).Perm p := by
  induction level with
  | nil => intro p; exact List.Perm.refl _
  | cons r level ih => intro p; exact (ih (swapAt p r.toNat)).trans (swapAt_perm p r.toNat)
theorem laidP_isP {n : Nat} {p : List Int} (h : isP n p) (level : List Int) : isP n (laidP p level) := isP_perm h (laidP_perm level p)
theorem swapAt_twice : ∀ (p : List Int) (j : Nat), swapAt (swapAt p j) j = p
  | [], _ => by simp [swapAt]
  | [a], j => by cases j <;> simp [swapAt]
  | a :: b :: t, 0 => by simp [swapAt]
  | a :: b :: t, j + 1 => by
    have := swapAt_twice (b :: t) j
    simp only [swapAt]
    rw [this]
theorem nodup_sub {α : Type} [DecidableEq α] : ∀ {l m : List α}, l.Nodup → (∀ x ∈ l, x ∈ m) → l.length ≤ m.length
  | [], m, _, _ => Nat.zero_le _
  | x :: l, m, hn, hs => by
    rw [List.nodup_cons] at hn
    have hx := hs x (by simp)
    have h1 : l.length ≤ (m.erase x).length := nodup_sub hn.2 (fun y hy => (List.mem_erase_of_ne (fun e => by subst e; exact hn.1 hy)).2 (hs y (by simp [hy])))
    rw [List.length_erase_of_mem hx] at h1
    have : 0 < m.length := List.length_pos_of_mem hx
    simp only [List.length_cons]; omega
theorem nodup_at {α : Type} {l : List α} (h : l.Nodup) {i j : Nat} (hi : i < l.length) (hj : j < l.length) (e : l[i] = l[j]) : i = j := by
  rw [List.Nodup, List.pairwise_iff_getElem] at h
  rcases Nat.lt_trichotomy i j with g | g | g
  · exact absurd e (h i j hi hj g)
  · exact g
  · exact absurd e.symm (h j i hj hi g)
/-! ### all orders of n numbers, by their ranks -/
def ordsTo (n : Nat) : Nat → List (List Int)
  | 0 => [[]]
  | j + 1 => (ordsTo n j).flatMap fun p => (((List.range n).map fun x => ((x : Nat) : Int)).filter fun x => !p.contains x).map fun x => p ++ [x]
def ords (n : Nat) : List (List Int) := ordsTo n n
theorem ordsTo_mem {n : Nat} : ∀ (j : Nat) (p : List Int), p.length = j → p.Nodup → (∀ v ∈ p, 0 ≤ v ∧ v < (n : Int)) → p ∈ ordsTo n j := by
  intro j
  induction j with
  | zero => intro p h _ _; rw [List.length_eq_zero_iff] at h; subst h; simp [ordsTo]
  | succ j ih =>
    intro p h hn hv
    have hne : p ≠ [] := by rintro rfl; simp at h
    have e : p = p.dropLast ++ [p.getLast hne] := (List.dropLast_concat_getLast hne).symm
    generalize p.getLast hne = x at e
    generalize p.dropLast = q at e
    subst e
    rw [List.length_append, List.length_singleton] at h
    rw [List.nodup_append] at hn
    have hx := hv x (by simp)
    simp only [ordsTo, List.mem_flatMap, List.mem_map, List.mem_filter, List.mem_range]
    refine ⟨q, ih q (by omega) hn.1 (fun v hq => hv v (by simp [hq])), x, ⟨⟨x.toNat, by omega, by omega⟩, ?_⟩, rfl⟩
    have : x ∉ q := fun hq => hn.2.2 x hq x (by simp) rfl
    simp [this]
theorem ords_mem {n : Nat} {p : List Int} (h : isP n p) : p ∈ ords n := ordsTo_mem n p h.1 h.2.1 (fun v hv => (h.2.2 v).1 hv)
theorem ordsTo_isP {n : Nat} : ∀ (j : Nat) (p : List Int), p ∈ ordsTo n j → p.length = j ∧ p.Nodup ∧ ∀ v ∈ p, 0 ≤ v ∧ v < (n : Int) := by
  intro j
  induction j with
  | zero => intro p h; simp [ordsTo] at h; subst h; simp
  | succ j ih =>
    intro p h
    simp only [ordsTo, List.mem_flatMap, List.mem_map, List.mem_filter, List.mem_range] at h
    obtain ⟨q, hq, x, ⟨⟨y, hy, rfl⟩, hx⟩, rfl⟩ := h
    obtain ⟨h1, h2, h3⟩ := ih q hq
    have hx' : ((y : Nat) : Int) ∉ q := by simpa using hx
    refine ⟨by simp [h1], ?_, ?_⟩
    · rw [List.nodup_append]
      refine ⟨h2, by simp, ?_⟩
      intro a ha b hb e
      simp at hb
      subst hb; subst e; exact hx' ha
    · intro v hv
      rw [List.mem_append, List.mem_singleton] at hv
      rcases hv with hv | rfl
      · exact h3 v hv
      · omega
/-- A list of n different numbers below n has all of them. -/
theorem isP_of {n : Nat} {p : List Int} (hl : p.length = n) (hn : p.Nodup) (hv : ∀ v ∈ p, 0 ≤ v ∧ v < (n : Int)) : isP n p := by
  refine ⟨hl, hn, fun v => ⟨fun h => hv v h, fun h => ?_⟩⟩
  apply Classical.byContradiction
  intro hno
  have h1 : (v :: p).Nodup := List.nodup_cons.2 ⟨hno, hn⟩
  have h2 := nodup_sub (m := (List.range n).map fun x => ((x : Nat) : Int)) h1 (fun x hx => by
    rw [List.mem_map]
    rcases List.mem_cons.1 hx with rfl | hx
    · exact ⟨x.toNat, by rw [List.mem_range]; omega, by omega⟩
    · have := hv x hx; exact ⟨x.toNat, by rw [List.mem_range]; omega, by omega⟩)
  simp at h2; omega
def lessIn (x : Int) (t : List Int) : Nat := t.countP fun y => decide (y < x)
def rankGo (n : Nat) : List Int → Nat → Nat → Nat
  | [], _, r => r
  | x :: t, i, r => rankGo n t (i + 1) (r * (n - i) + lessIn x t)
def rankP (p : List Int) : Nat := rankGo p.length p 0 0
theorem ranks2 : (ords 2).map rankP = List.range 2 := by decide +kernel
theorem ranks3 : (ords 3).map rankP = List.range 6 := by decide +kernel
theorem ranks4 : (ords 4).map rankP = List.range 24 := by decide +kernel
theorem ranks5 : (ords 5).map rankP = List.range 120 := by decide +kernel
theorem ranks6 : (ords 6).map rankP = List.range 720 := by decide +kernel
def facN (n : Nat) : Nat := match n with | 2 => 2 | 3 => 6 | 4 => 24 | 5 => 120 | _ => 720
theorem ranks {n : Nat} (h : 2 ≤ n) (h6 : n ≤ 6) : (ords n).map rankP = List.range (facN n) := by
  rcases (by omega : n = 2 ∨ n = 3 ∨ n = 4 ∨ n = 5 ∨ n = 6) with rfl | rfl | rfl | rfl | rfl
  · exact ranks2
  · exact ranks3
  · exact ranks4
  · exact ranks5
  · exact ranks6
theorem facN_le (n : Nat) : facN n ≤ 720 := by unfold facN; split <;> omega
theorem ords_len {n : Nat} (h : 2 ≤ n) (h6 : n ≤ 6) : (ords n).length = facN n := by
  have := congrArg List.length (ranks h h6)
  simpa using this
theorem rank_ords {n : Nat} (h : 2 ≤ n) (h6 : n ≤ 6) {r : Nat} (hr : r < (ords n).length) : rankP (ords n)[r] = r := by
  have e := ranks h h6
  have h1 : r < ((ords n).map rankP).length := by simpa using hr
  have : ((ords n).map rankP)[r] = (List.range (facN n))[r]'(by rw [← e]; exact h1) := by simp only [e]
  simpa using this
theorem ords_rank {n : Nat} (h : 2 ≤ n) (h6 : n ≤ 6) {p : List Int} (hp : isP n p) : ∃ hr : rankP p < (ords n).length, (ords n)[rankP p] = p := by
  obtain ⟨i, hi, e⟩ := List.getElem_of_mem (ords_mem hp)
  have := rank_ords h h6 hi
  rw [e] at this
  subst this
  exact ⟨hi, e⟩
/-! ### the search -/
def fstep (d : Int) (S : List (List Int × Int)) (q : List Int) : List (List Int × Int) := if q ∈ S.map Prod.fst then S else S ++ [(q, d + 1)]
def fvisit (L : List (List Int)) (S : List (List Int × Int)) (e : List Int × Int) : List (List Int × Int) := L.foldl (fun S l => fstep e.2 S (laidP e.1 l)) S
def fbfs (L : List (List Int)) : Nat → Nat → List (List Int × Int) → Option (List (List Int × Int))
  | 0, _, _ => none
  | k + 1, i, S => if h : i < S.length then fbfs L k (i + 1) (fvisit L S S[i]) else some S
structure FInv (n : Nat) (S : List (List Int × Int)) : Prop where
  nd : (S.map Prod.fst).Nodup
  ord : ∀ e ∈ S, isP n e.1
  dep : ∀ e ∈ S, 0 ≤ e.2 ∧ e.2 < S.length
theorem FInv.len {n : Nat} {S : List (List Int × Int)} (H : FInv n S) (h : 2 ≤ n) (h6 : n ≤ 6) : S.length ≤ facN n := by
  have := nodup_sub (m := ords n) H.nd (fun x hx => by
    obtain ⟨e, he, rfl⟩ := List.mem_map.1 hx
    exact ords_mem (H.ord e he))
  rw [ords_len h h6] at this
  simpa using this
theorem FInv.step {n : Nat} {S : List (List Int × Int)} (H : FInv n S) {d : Int} (h0 : 0 ≤ d) (h1 : d < S.length) {q : List Int} (hq : isP n q) : FInv n (fstep d S q) := by
  unfold fstep
  split
  · exact H
  · rename_i hno
    refine ⟨?_, ?_, ?_⟩
    · rw [List.map_append, List.nodup_append]
      refine ⟨H.nd, by simp, ?_⟩
      intro a ha b hb e
      simp at hb
      subst hb; subst e; exact hno ha
    · intro e he
      rcases List.mem_append.1 he with he | he
      · exact H.ord e he
      · simp at he; subst he; exact hq
    · intro e he
      rw [List.length_append, List.length_singleton]
      rcases List.mem_append.1 he with he | he
      · have := H.dep e he; omega
      · simp at he; subst he; simp; omega
theorem fstep_pre (d : Int) (S : List (List Int × Int)) (q : List Int) : S <+: fstep d S q := by
  unfold fstep; split
  · exact List.prefix_refl _
  · exact List.prefix_append _ _
theorem fstep_has (d : Int) (S : List (List Int × Int)) (q : List Int) : q ∈ (fstep d S q).map Prod.fst := by
  unfold fstep; split
  · assumption
  · simp
theorem pre_mem {S T : List (List Int × Int)} (h : S <+: T) {q : List Int} (hq : q ∈ S.map Prod.fst) : q ∈ T.map Prod.fst := by
  obtain ⟨U, rfl⟩ := h
  simp only [List.map_append, List.mem_append]; exact .inl hq
theorem pre_at {S T : List (List Int × Int)} (h : S <+: T) {j : Nat} (hj : j < S.length) : ∃ hj' : j < T.length, T[j] = S[j] := by
  obtain ⟨U, rfl⟩ := h
  refine ⟨by simp; omega, ?_⟩
  rw [List.getElem_append_left hj]
theorem fold_ok {n : Nat} (e : List Int × Int) (he : isP n e.1) : ∀ (L : List (List Int)) (S : List (List Int × Int)), FInv n S → 0 ≤ e.2 → e.2 < S.length →
    FInv n (L.foldl (fun S l => fstep e.2 S (laidP e.1 l)) S) ∧ S <+: L.foldl (fun S l => fstep e.2 S (laidP e.1 l)) S ∧ ∀ l ∈ L, laidP e.1 l ∈ (L.foldl (fun S l => fstep e.2 S (laidP e.1 l)) S).map Prod.fst := by
  intro L
  induction L with
  | nil => intro S H _ _; exact ⟨H, List.prefix_refl _, fun l hl => by simp at hl⟩
  | cons l L ih =>
    intro S H h0 h1
    have p1 := fstep_pre e.2 S (laidP e.1 l)
    have := ih (fstep e.2 S (laidP e.1 l)) (H.step h0 h1 (laidP_isP he l)) h0 (by have := p1.length_le; omega)
    refine ⟨this.1, p1.trans this.2.1, fun l' hl' => ?_⟩
    rcases List.mem_cons.1 hl' with rfl | hl'
    · exact pre_mem this.2.1 (fstep_has _ _ _)
    · exact this.2.2 l' hl'
theorem fvisit_ok {n : Nat} {L : List (List Int)} {S : List (List Int × Int)} (H : FInv n S) {i : Nat} (hi : i < S.length) :
    FInv n (fvisit L S S[i]) ∧ S <+: fvisit L S S[i] ∧ ∀ l ∈ L, laidP S[i].1 l ∈ (fvisit L S S[i]).map Prod.fst :=
  fold_ok S[i] (H.ord _ (List.getElem_mem hi)) L S H (H.dep _ (List.getElem_mem hi)).1 (H.dep _ (List.getElem_mem hi)).2
/-- What is so of all orders behind the search. -/
structure FDone (n : Nat) (L : List (List Int)) (F : List (List Int × Int)) : Prop extends FInv n F where
  closed : ∀ (j : Nat) (hj : j < F.length), ∀ l ∈ L, laidP F[j].1 l ∈ F.map Prod.fst
  first : [(((List.range n).map fun x => ((x : Nat) : Int)), (0 : Int))] <+: F
theorem fbfs_some {n : Nat} {L : List (List Int)} (h : 2 ≤ n) (h6 : n ≤ 6) : ∀ (k i : Nat) (S : List (List Int × Int)), FInv n S → i ≤ S.length → facN n + 1 ≤ k + i → 
    [(((List.range n).map fun x => ((x : Nat) : Int)), (0 : Int))] <+: S → (∀ (j : Nat) (hj : j < S.length), j < i → ∀ l ∈ L, laidP S[j].1 l ∈ S.map Prod.fst) → ∃ F, fbfs L k i S = some F ∧ FDone n L F := by
  intro k
  induction k with
  | zero => intro i S H hi hk; have := H.len h h6; omega
  | succ k ih =>
    intro i S H hi hk hf hc
    unfold fbfs
    by_cases c : i < S.length
    · rw [dif_pos c]
      obtain ⟨H1, p1, c1⟩ := fvisit_ok (L := L) H c
      refine ih (i + 1) _ H1 (by have := p1.length_le; omega) (by omega) (hf.trans p1) ?_
      intro j hj hji l hl
      rcases Nat.lt_or_ge j i with g | g
      · obtain ⟨hj', e⟩ := pre_at p1 (show j < S.length by omega)
        rw [e]
        exact pre_mem p1 (hc j (by omega) g l hl)
      · obtain rfl : j = i := by omega
        obtain ⟨hj', e⟩ := pre_at p1 c
        rw [e]
        exact c1 l hl
    · rw [dif_neg c]
      exact ⟨S, rfl, H, fun j hj l hl => hc j hj (by omega) l hl, hf⟩
def ident (n : Nat) : List Int := (List.range n).map fun x => ((x : Nat) : Int)
theorem ident_isP (n : Nat) : isP n (ident n) := by
  have := ends_isP (n := n) (l := []) (by simp)
  simpa [ends, ident] using this
theorem search {n : Nat} (L : List (List Int)) (h : 2 ≤ n) (h6 : n ≤ 6) : ∃ k F, fbfs L k 0 [(ident n, 0)] = some F ∧ FDone n L F := by
  obtain ⟨F, h1, h2⟩ := fbfs_some (L := L) h h6 (facN n + 1) 0 [(ident n, 0)] ⟨by simp, by simp [ident_isP], by simp⟩ (by simp) (by omega) (List.prefix_refl _) (by intro j _ hj; omega)
  exact ⟨_, F, h1, h2⟩
/-- An order without a number behind a greater one is the one at home. -/
theorem home_of {n : Nat} {p : List Int} (h : isP n p) (H : ∀ (j : Nat) (hj : j + 1 < p.length), ¬ p[j + 1] < p[j]) : p = ident n := by
  have up : ∀ (j : Nat) (hj : j + 1 < p.length), p[j] < p[j + 1] := by
    intro j hj
    have h1 := H j hj
    have h2 : p[j] ≠ p[j + 1] := by
      intro e
      have := nodup_at h.2.1 (by omega) hj e
      omega
    omega
  have lo : ∀ (j : Nat) (hj : j < p.length), (j : Int) ≤ p[j] := by
    intro j
    induction j with
    | zero => intro hj; have := (h.2.2 p[0]).1 (List.getElem_mem hj); omega
    | succ j ih => intro hj; have := ih (by omega); have := up j hj; omega
  have hi : ∀ (d j : Nat) (hj : j < p.length), j + d + 1 = p.length → p[j] ≤ (j : Int) := by
    intro d
    induction d with
    | zero => intro j hj e; have := (h.2.2 p[j]).1 (List.getElem_mem hj); have := h.1; omega
    | succ d ih => intro j hj e; have := ih (j + 1) (by omega) (by omega); have := up j (by omega); omega
  refine List.ext_getElem (by rw [h.1]; simp [ident]) ?_
  intro j h1 h2
  have a := lo j h1
  have b := hi (p.length - j - 1) j h1 (by omega)
  simp [ident]; omega
theorem all_met {n : Nat} {L : List (List Int)} (hL : ∀ r : Nat, r + 1 < n → [(r : Int)] ∈ L) {F : List (List Int × Int)} (D : FDone n L F) : ∀ (m : Nat) (p : List Int), inv p = m → isP n p → p ∈ F.map Prod.fst := by
  intro m
  induction m with
  | zero =>
    intro p hm hp
    have : p = ident n := home_of hp (fun j hj hlt => by have := swapAt_inv p j hj hlt; omega)
    subst this
    exact pre_mem D.first (by simp [ident])
  | succ m ih =>
    intro p hm hp
    by_cases g : ∃ j : Nat, ∃ hj : j + 1 < p.length, p[j + 1] < p[j]
    · obtain ⟨j, hj, hlt⟩ := g
      have e := swapAt_inv p j hj hlt
      have hq := ih (swapAt p j) (by omega) (isP_perm hp (swapAt_perm p j))
      obtain ⟨x, hx, ex⟩ := List.mem_map.1 hq
      obtain ⟨i, hi, rfl⟩ := List.getElem_of_mem hx
      have c := D.closed i hi [(j : Int)] (hL j (by rw [hp.1] at hj; exact hj))
      rw [ex] at c
      simpa [laidP, swapAt_twice] using c
    · have : p = ident n := home_of hp (fun j hj hlt => g ⟨j, hj, hlt⟩)
      subst this
      exact pre_mem D.first (by simp [ident])
/-- How deep an order lies. -/
def depOf (S : List (List Int × Int)) (p : List Int) : Int := match S.find? (fun e => e.1 == p) with | some e => e.2 | none => -1
theorem depOf_mem {S : List (List Int × Int)} (hn : (S.map Prod.fst).Nodup) {e : List Int × Int} (he : e ∈ S) : depOf S e.1 = e.2 := by
  induction S with
  | nil => simp at he
  | cons x S ih =>
    rw [List.map_cons, List.nodup_cons] at hn
    unfold depOf
    rw [List.find?_cons]
    rcases List.mem_cons.1 he with rfl | he
    · simp
    · have : (x.1 == e.1) = false := by
        rw [beq_eq_false_iff_ne]
        intro g
        exact hn.1 (g ▸ List.mem_map.2 ⟨e, he, rfl⟩)
      rw [this]
      exact ih hn.2 he
theorem depOf_none {S : List (List Int × Int)} {p : List Int} (h : p ∉ S.map Prod.fst) : depOf S p = -1 := by
  unfold depOf
  have : S.find? (fun e => e.1 == p) = none := by
    rw [List.find?_eq_none]
    intro e he g
    exact h (List.mem_map.2 ⟨e, he, by simpa using g⟩)
  rw [this]
theorem depOf_snoc {S : List (List Int × Int)} {q : List Int} {d : Int} (h : q ∉ S.map Prod.fst) (p : List Int) : depOf (S ++ [(q, d)]) p = if p = q then d else depOf S p := by
  by_cases e : p = q
  · subst e
    rw [if_pos rfl]
    unfold depOf
    rw [List.find?_append]
    have : S.find? (fun e => e.1 == p) = none := by
      rw [List.find?_eq_none]
      intro e he g
      exact h (List.mem_map.2 ⟨e, he, by simpa using g⟩)
    rw [this]; simp
  · rw [if_neg e]
    unfold depOf
    rw [List.find?_append]
    have : ([(q, d)] : List (List Int × Int)).find? (fun e => e.1 == p) = none := by
      simp; intro g; exact e g.symm
    rw [this, Option.or_none]
/-! ### how many of each -/
def top : List Int → Nat
  | [] => 0
  | x :: l => max (x.toNat + 1) (top l)
def countsOf (vs : List Int) : List Int := (List.range (top vs)).map fun d => ((vs.countP fun x => decide (x = ((d : Nat) : Int)) : Nat) : Int)
def padTo (out : List Int) (x : Nat) : List Int := out ++ List.replicate (x + 1 - out.length) 0
end Go.Proofs.Ytlmlamkbedfmhaa.P
end
section
set_option linter.unusedVariables false
set_option linter.unusedSimpArgs false
namespace Go.Proofs.Ytlmlamkbedfmhaa.P
open Go.RowKit Go.Proofs.YtlmlamkbedfmhaaW.PrintWords Go.Proofs.YtlmlamkbedfmhaaW.PrintLast Go.Proofs.YtlmlamkbedfmhaaW.PrintMore

/-! ### ranks -/
theorem lessIn_lt {x y : Int} {t : List Int} (h : y < x) : lessIn x (y :: t) = lessIn x t + 1 := by simp [lessIn, List.countP_cons, h]
theorem lessIn_ge {x y : Int} {t : List Int} (h : ¬ y < x) : lessIn x (y :: t) = lessIn x t := by simp [lessIn, List.countP_cons, h]
theorem rank_step {r m q : Nat} {L i : Nat} (hi : i < L) (hL : L ≤ 6) (hr : r ≤ 65534) (hm : r * (L - i) = m) (hq : q ≤ 6) :
    wrap64 ((wrap64 ((r : Int) * (wrap64 ((L : Int) - (i : Int))))) + (q : Int)) = ((m + q : Nat) : Int) := by
  have h1 : r * (L - i) ≤ r * 6 := Nat.mul_le_mul_left _ (by omega)
  have e1 : wrap64 ((L : Int) - (i : Int)) = ((L - i : Nat) : Int) := by rw [w64 (by omega) (by omega)]; omega
  have e2 : (r : Int) * ((L - i : Nat) : Int) = (m : Int) := by rw [← hm]; push_cast; rfl
  rw [e1, e2, w64 (x := (m : Int)) (by omega) (by omega), w64 (by omega) (by omega)]
  omega
theorem alRank_l1 (x0 : List Int) (x3 x4 x5 : Int) (x9 : List Int) (x10 x11 : Int) (t : List Int) (ht : t.length ≤ 1000) (R : Int) : ∀ d j : Nat, j + d = t.length → ∀ acc : Nat, acc + d ≤ 2000 →
    Ev (fun k => spec_alRank.l0 k x0 (wrap64 ((wrap64 (x3 * (wrap64 ((x0.length : Int) - x4)))) + ((acc + lessIn x5 (t.drop j) : Nat) : Int))) x9 x10 (wrap64 (x11 + 1))) R →
    Ev (fun k => spec_alRank.l1 k x0 x3 x4 x5 (acc : Int) x9 x10 x11 t (t.length : Int) (j : Int)) R := by
  intro d
  induction d with
  | zero =>
    intro j hj acc ha h
    refine Ev.step (fun k => by rw [spec_alRank.l1]) ?_
    refine Ev.no (by omega) ?_
    rw [List.drop_eq_nil_of_le (by omega)] at h
    simpa [lessIn] using h
  | succ d ih =>
    intro j hj acc ha h
    have hlt : j < t.length := by omega
    refine Ev.step (fun k => by rw [spec_alRank.l1]) ?_
    refine Ev.yes (by omega) (Ev.yes (by omega) (Ev.yes (by omega) ?_))
    rw [rd_nat hlt, w64i hlt (by omega)]
    rw [List.drop_eq_getElem_cons hlt] at h
    by_cases g : t[j] < x5
    · refine Ev.yes g ?_
      have e : wrap64 ((acc : Int) + 1) = ((acc + 1 : Nat) : Int) := by rw [w64 (by omega) (by omega)]; omega
      rw [e]
      refine ih (j + 1) (by omega) (acc + 1) (by omega) ?_
      have e2 : acc + lessIn x5 (t[j] :: t.drop (j + 1)) = acc + 1 + lessIn x5 (t.drop (j + 1)) := by rw [lessIn_lt g]; omega
      rw [e2] at h
      exact h
    · refine Ev.no g ?_
      refine ih (j + 1) (by omega) acc (by omega) ?_
      have e2 : acc + lessIn x5 (t[j] :: t.drop (j + 1)) = acc + lessIn x5 (t.drop (j + 1)) := by rw [lessIn_ge g]
      rw [e2] at h
      exact h
theorem lessIn_le (x : Int) (t : List Int) : lessIn x t ≤ t.length := List.countP_le_length
theorem alRank_l0 (p : List Int) (hp : p.length ≤ 6) : ∀ d i : Nat, i + d = p.length → ∀ r : Nat, r + 2 ≤ 2 * 8 ^ i →
    Ev (fun k => spec_alRank.l0 k p (r : Int) p (p.length : Int) (i : Int)) ((rankGo p.length (p.drop i) i r : Nat) : Int) := by
  intro d
  induction d with
  | zero =>
    intro i hi r hr
    refine Ev.step (fun k => by rw [spec_alRank.l0]) ?_
    refine Ev.no (by omega) (Ev.ret ?_)
    rw [List.drop_eq_nil_of_le (by omega)]; rfl
  | succ d ih =>
    intro i hi r hr
    have hlt : i < p.length := by omega
    have hpow : 8 ^ i ≤ 32768 := Nat.le_trans (Nat.pow_le_pow_right (by decide) (by omega : i ≤ 5)) (by decide)
    have hnext : ∀ m q : Nat, m ≤ r * 6 → q ≤ 6 → m + q + 2 ≤ 2 * 8 ^ (i + 1) := by
      intro m q h1 h2
      rw [Nat.pow_succ]
      generalize 8 ^ i = B at hr hpow
      omega
    have hr1 : r ≤ 65534 := by
      generalize 8 ^ i = B at hr hpow
      omega
    clear hr hpow
    have hl := lessIn_le p[i] (p.drop (i + 1))
    rw [List.length_drop] at hl
    have hm : r * (p.length - i) ≤ r * 6 := Nat.mul_le_mul_left _ (by omega)
    refine Ev.step (fun k => by rw [spec_alRank.l0]) ?_
    rw [w64i hlt (by omega)]
    refine Ev.yes (by omega) (Ev.yes (by omega) (Ev.yes (by omega) (Ev.yes (by omega) (Ev.yes (by omega) ?_))))
    rw [rd_nat hlt, Int.toNat_natCast]
    refine alRank_l1 p r i p[i] p p.length i (p.drop (i + 1)) (by rw [List.length_drop]; omega) _ (p.drop (i + 1)).length 0 (by omega) 0 (by rw [List.length_drop]; omega) ?_
    rw [w64i hlt (by omega), List.drop_zero, Nat.zero_add, List.drop_eq_getElem_cons hlt]
    rw [rank_step hlt hp hr1 rfl (by omega)]
    exact ih (i + 1) (by omega) _ (hnext _ _ hm (by omega))
theorem alRank_ev {n : Nat} {p : List Int} (h : isP n p) (h6 : n ≤ 6) : Ev (fun k => spec_alRank.f k p) ((rankP p : Nat) : Int) := by
  unfold spec_alRank.f
  have := alRank_l0 p (by rw [h.1]; exact h6) p.length 0 (by omega) 0 (by decide)
  simpa [rankP] using this
/-! ### levels laid -/
def levelOk (n : Nat) (l : List Int) : Prop := (∀ r ∈ l, 0 ≤ r ∧ r + 1 < (n : Int)) ∧ l.length ≤ 1000
theorem swapAt_len (p : List Int) (j : Nat) : (swapAt p j).length = p.length := (swapAt_perm p j).length_eq
theorem lvTop_loop (n : Nat) (hn : n ≤ 1000) (l : List Int) (hl : levelOk n l) : ∀ d i : Nat, i + d = l.length → ∀ p : List Int, p.length = n →
    Ev (fun k => spec_lvTop.l0 k p l (l.length : Int) (i : Int)) (laidP p (l.drop i)) := by
  intro d
  induction d with
  | zero =>
    intro i hi p hp
    refine Ev.step (fun k => by rw [spec_lvTop.l0]) ?_
    refine Ev.no (by omega) (Ev.ret ?_)
    rw [List.drop_eq_nil_of_le (by omega)]; rfl
  | succ d ih =>
    intro i hi p hp
    have hlt : i < l.length := by omega
    have hr := hl.1 l[i] (List.getElem_mem hlt)
    have hll := hl.2
    refine Ev.step (fun k => by rw [spec_lvTop.l0]) ?_
    refine Ev.yes (by omega) (Ev.yes (by omega) (Ev.yes (by omega) ?_))
    rw [rd_nat hlt, w64i hlt (by omega), List.drop_eq_getElem_cons hlt]
    have e : spec_alSwap.f p l[i] = some (swapAt p l[i].toNat) := by
      have := alSwap_eq p l[i].toNat (by omega) (by omega)
      rwa [Int.toNat_of_nonneg hr.1] at this
    refine Ev.known e ?_
    exact ih (i + 1) (by omega) (swapAt p l[i].toNat) (by rw [swapAt_len]; exact hp)
theorem lvTop_ev {n : Nat} (hn : n ≤ 1000) {p l : List Int} (hl : levelOk n l) (hp : p.length = n) : Ev (fun k => spec_lvTop.f k p l) (laidP p l) := by
  unfold spec_lvTop.f
  simpa using lvTop_loop n hn l hl l.length 0 (by omega) p hp
theorem exchanged_eq (p : List Int) (j : Nat) (h : j + 1 < p.length) (hp : p.length ≤ 1000) : impl_exchanged.f p (j : Int) = some (swapAt p j) := by
  have e : wrap64 ((j : Int) + 1) = ((j + 1 : Nat) : Int) := by rw [w64 (by omega) (by omega)]; omega
  unfold impl_exchanged.f slices_Clone_int_int.f
  rw [if_pos (by omega), Option.bind_some, e, if_pos (by omega), if_pos (by omega), if_pos (by omega), if_pos (by omega), rd_nat h, rd_nat (by omega : j < p.length), Int.toNat_natCast, Int.toNat_natCast, swapAt_set p j h]
theorem laid_loop (n : Nat) (hn : n ≤ 1000) (l : List Int) (hl : levelOk n l) : ∀ d i : Nat, i + d = l.length → ∀ p : List Int, p.length = n →
    Ev (fun k => impl_laid.l0 k p l (l.length : Int) (i : Int)) (laidP p (l.drop i)) := by
  intro d
  induction d with
  | zero =>
    intro i hi p hp
    refine Ev.step (fun k => by rw [impl_laid.l0]) ?_
    refine Ev.no (by omega) (Ev.ret ?_)
    rw [List.drop_eq_nil_of_le (by omega)]; rfl
  | succ d ih =>
    intro i hi p hp
    have hlt : i < l.length := by omega
    have hr := hl.1 l[i] (List.getElem_mem hlt)
    have hll := hl.2
    refine Ev.step (fun k => by rw [impl_laid.l0]) ?_
    refine Ev.yes (by omega) (Ev.yes (by omega) (Ev.yes (by omega) ?_))
    rw [rd_nat hlt, w64i hlt (by omega), List.drop_eq_getElem_cons hlt]
    have e : impl_exchanged.f p l[i] = some (swapAt p l[i].toNat) := by
      have := exchanged_eq p l[i].toNat (by omega) (by omega)
      rwa [Int.toNat_of_nonneg hr.1] at this
    refine Ev.known e ?_
    exact ih (i + 1) (by omega) (swapAt p l[i].toNat) (by rw [swapAt_len]; exact hp)
theorem laid_ev {n : Nat} (hn : n ≤ 1000) {p l : List Int} (hl : levelOk n l) (hp : p.length = n) : Ev (fun k => impl_laid.f k p l) (laidP p l) := by
  unfold impl_laid.f
  simpa using laid_loop n hn l hl l.length 0 (by omega) p hp
/-! ### the order at home -/
theorem ident_succ (i : Nat) : ident (i + 1) = ident i ++ [(i : Int)] := by simp [ident, List.range_succ]
theorem ident_len (i : Nat) : (ident i).length = i := by simp [ident]
theorem identity_loop (n : Nat) (hn : n ≤ 1000) : ∀ d i : Nat, i + d = n → Ev (fun k => impl_identity.l0 k (ident i) (n : Int) (i : Int)) (ident n) := by
  intro d
  induction d with
  | zero =>
    intro i hi
    obtain rfl : i = n := by omega
    refine Ev.step (fun k => by rw [impl_identity.l0]) ?_
    exact Ev.no (by omega) (Ev.ret rfl)
  | succ d ih =>
    intro i hi
    refine Ev.step (fun k => by rw [impl_identity.l0]) ?_
    refine Ev.yes (by omega) (Ev.yes (by rw [ident_len]; omega) ?_)
    rw [← ident_succ, w64i (by omega : i < n) (by omega)]
    exact ih (i + 1) (by omega)
theorem identity_ev (n : Nat) (hn : n ≤ 1000) : Ev (fun k => impl_identity.f k (n : Int)) (ident n) := by
  unfold impl_identity.f
  simpa [ident] using identity_loop n hn n 0 (by omega)
/-! ### keys -/
def keyP (p : List Int) : ByteArray := strOfNums (p.map fun x => 48 + x)
theorem keyP_size (p : List Int) : (keyP p).size = p.length := by rw [keyP, strOfNums_size, List.length_map]
theorem key_loop {p : List Int} (hb : ∀ x ∈ p, 0 ≤ x ∧ x < 100) (hl : p.length ≤ 1000) : ∀ d i : Nat, i + d = p.length →
    Ev (fun k => impl_orderKey.l0 k ((p.take i).map fun x => 48 + x) p (p.length : Int) (i : Int)) (keyP p) := by
  intro d
  induction d with
  | zero =>
    intro i hi
    refine Ev.step (fun k => by rw [impl_orderKey.l0]) ?_
    refine Ev.no (by omega) (Ev.ret ?_)
    rw [List.take_of_length_le (by omega)]; rfl
  | succ d ih =>
    intro i hi
    have hlt : i < p.length := by omega
    have hx := hb p[i] (List.getElem_mem hlt)
    refine Ev.step (fun k => by rw [impl_orderKey.l0]) ?_
    refine Ev.yes (by omega) (Ev.yes (by omega) (Ev.yes (by omega) (Ev.yes (by simp; omega) ?_)))
    rw [rd_nat hlt, w64i hlt (by omega)]
    have e : (wrap64 (48 + p[i])) % 256 = 48 + p[i] := by rw [w64 (by omega) (by omega)]; omega
    rw [e, take_map_snoc (fun x : Int => 48 + x) hlt]
    exact ih (i + 1) (by omega)
theorem key_ev {p : List Int} (hb : ∀ x ∈ p, 0 ≤ x ∧ x < 100) (hl : p.length ≤ 1000) : Ev (fun k => impl_orderKey.f k p) (keyP p) := by
  unfold impl_orderKey.f
  simpa using key_loop hb hl p.length 0 (by omega)
theorem keyP_inj : ∀ {p q : List Int}, (∀ x ∈ p, 0 ≤ x ∧ x < 100) → (∀ x ∈ q, 0 ≤ x ∧ x < 100) → keyP p = keyP q → p = q := by
  have key : ∀ p q : List Int, (∀ x ∈ p, 0 ≤ x ∧ x < 100) → (∀ x ∈ q, 0 ≤ x ∧ x < 100) → (p.map fun x : Int => UInt8.ofNat (48 + x).toNat) = (q.map fun x : Int => UInt8.ofNat (48 + x).toNat) → p = q := by
    intro p
    induction p with
    | nil => intro q _ _ h; cases q with
      | nil => rfl
      | cons y q => simp at h
    | cons x p ih =>
      intro q hp hq h
      cases q with
      | nil => simp at h
      | cons y q =>
        rw [List.map_cons, List.map_cons, List.cons.injEq] at h
        have e := ih q (fun z hz => hp z (by simp [hz])) (fun z hz => hq z (by simp [hz])) h.2
        have h1 := congrArg UInt8.toNat h.1
        have hx := hp x (by simp)
        have hy := hq y (by simp)
        rw [UInt8.toNat_ofNat', UInt8.toNat_ofNat'] at h1
        have : x = y := by omega
        rw [this, e]
  intro p q hp hq h
  refine key p q hp hq ?_
  have := congrArg (fun b : ByteArray => b.data.toList) h
  simpa [keyP, strOfNums, List.map_map, Function.comp_def] using this
theorem isP_small {n : Nat} {p : List Int} (h : isP n p) (h6 : n ≤ 6) : ∀ x ∈ p, 0 ≤ x ∧ x < 100 := fun x hx => by
  have := (h.2.2 x).1 hx; omega
end Go.Proofs.Ytlmlamkbedfmhaa.P
end
section
set_option linter.unusedVariables false
set_option linter.unusedSimpArgs false
namespace Go.Proofs.Ytlmlamkbedfmhaa.P
open Go.RowKit Go.Proofs.YtlmlamkbedfmhaaW.PrintWords Go.Proofs.YtlmlamkbedfmhaaW.PrintLast Go.Proofs.YtlmlamkbedfmhaaW.PrintMore

/-! ### all orders -/
theorem l1Has_loop (x : Int) (l : List Int) (hb : l.length ≤ 9223372036854775807) : ∀ d i : Nat, i + d = l.length → Ev (fun k => spec_l1Has.l0 k x l (l.length : Int) (i : Int)) (decide (x ∈ l.drop i)) := by
  intro d
  induction d with
  | zero =>
    intro i hi
    refine Ev.step (fun k => by rw [spec_l1Has.l0]) ?_
    refine Ev.no (by omega) (Ev.ret ?_)
    rw [List.drop_eq_nil_of_le (by omega)]; simp
  | succ d ih =>
    intro i hi
    have hlt : i < l.length := by omega
    refine Ev.step (fun k => by rw [spec_l1Has.l0]) ?_
    refine Ev.yes (by omega) (Ev.yes (by omega) (Ev.yes (by omega) ?_))
    rw [rd_nat hlt, w64i hlt hb]
    by_cases g : l[i] = x
    · refine Ev.yes g (Ev.ret ?_)
      symm; rw [decide_eq_true_iff, List.drop_eq_getElem_cons hlt, g]; simp
    · refine Ev.no g (Ev.eq (ih (i + 1) (by omega)) ?_)
      rw [List.drop_eq_getElem_cons hlt, decide_eq_decide, List.mem_cons]
      constructor
      · exact fun h => .inr h
      · rintro (h | h)
        · exact absurd h.symm g
        · exact h
theorem l1Has_ev (x : Int) (l : List Int) (hb : l.length ≤ 9223372036854775807) : Ev (fun k => spec_l1Has.f k l x) (decide (x ∈ l)) := by
  unfold spec_l1Has.f
  simpa using l1Has_loop x l hb l.length 0 (by omega)
def extF (p : List Int) : Nat → Nat → List (List Int)
  | _, 0 => []
  | x, d + 1 => (if ((x : Nat) : Int) ∈ p then [] else [p ++ [((x : Nat) : Int)]]) ++ extF p (x + 1) d
theorem extF_len (p : List Int) : ∀ d x, (extF p x d).length ≤ d
  | 0, x => by simp [extF]
  | d + 1, x => by
    have := extF_len p d (x + 1)
    simp only [extF, List.length_append]
    split <;> simp <;> omega
theorem extF_eq (p : List Int) : ∀ d x, extF p x d = (((List.range' x d).map fun x => ((x : Nat) : Int)).filter fun x => !p.contains x).map fun x => p ++ [x]
  | 0, x => by simp [extF]
  | d + 1, x => by
    simp only [extF, List.range'_succ, List.map_cons, List.filter_cons]
    rw [extF_eq p d (x + 1)]
    by_cases g : ((x : Nat) : Int) ∈ p
    · simp [g]
    · simp [g]
theorem ordsTo_succ (n j : Nat) : ordsTo n (j + 1) = (ordsTo n j).flatMap fun p => extF p 0 n := by
  simp only [ordsTo, extF_eq, List.range_eq_range']
theorem alOrders_l2 (n : Nat) (hn : n ≤ 6) (p : List Int) (hp : p.length ≤ 1000) (x15 : List (List Int)) (x16 x17 : Int) (R : List (List Int)) : ∀ d x : Nat, x + d = n → ∀ acc : List (List Int), acc.length + d ≤ 1000000000 →
    Ev (fun k => spec_alOrders.l1 k (n : Int) (acc ++ extF p x d) x15 x16 (wrap64 (x17 + 1))) R → Ev (fun k => spec_alOrders.l2 k (n : Int) acc p (x : Int) x15 x16 x17) R := by
  intro d
  induction d with
  | zero =>
    intro x hx acc ha h
    refine Ev.step (fun k => by rw [spec_alOrders.l2]) ?_
    refine Ev.no (by omega) ?_
    simpa [extF] using h
  | succ d ih =>
    intro x hx acc ha h
    refine Ev.step (fun k => by rw [spec_alOrders.l2]) ?_
    refine Ev.yes (by omega) (Ev.bind (l1Has_ev (x : Int) p (by omega)) ?_)
    rw [w64i (by omega : x < n) (by omega)]
    by_cases g : ((x : Nat) : Int) ∈ p
    · refine Ev.yes (by simp [g]) ?_
      refine ih (x + 1) (by omega) acc (by omega) ?_
      simpa [extF, g] using h
    · refine Ev.no (by simp [g]) ?_
      refine Ev.known (l1Own_eq p (by omega)) (Ev.yes (by omega) (Ev.yes (by omega) ?_))
      refine ih (x + 1) (by omega) (acc ++ [p ++ [((x : Nat) : Int)]]) (by simp; omega) ?_
      simpa [extF, g] using h
theorem rdL3_nat {xs : List (List Int)} {j : Nat} (h : j < xs.length) : rd_L3 xs (j : Int) = xs[j] := by unfold rd_L3; simp [h]
theorem alOrders_l1 (n : Nat) (hn : n ≤ 6) (Q : List (List Int)) (hQ : ∀ p ∈ Q, p.length ≤ 1000) (hl : Q.length ≤ 1000000) (R : List (List Int)) : ∀ d i : Nat, i + d = Q.length → ∀ acc : List (List Int), acc.length + d * 6 ≤ 1000000000 →
    Ev (fun k => spec_alOrders.l0 k (n : Int) (acc ++ (Q.drop i).flatMap fun p => extF p 0 n)) R → Ev (fun k => spec_alOrders.l1 k (n : Int) acc Q (Q.length : Int) (i : Int)) R := by
  intro d
  induction d with
  | zero =>
    intro i hi acc ha h
    refine Ev.step (fun k => by rw [spec_alOrders.l1]) ?_
    refine Ev.no (by omega) ?_
    rw [List.drop_eq_nil_of_le (by omega)] at h
    simpa using h
  | succ d ih =>
    intro i hi acc ha h
    have hlt : i < Q.length := by omega
    refine Ev.step (fun k => by rw [spec_alOrders.l1]) ?_
    refine Ev.yes (by omega) (Ev.yes (by omega) (Ev.yes (by omega) ?_))
    rw [rdL3_nat hlt]
    refine alOrders_l2 n hn Q[i] (hQ _ (List.getElem_mem hlt)) Q _ _ R n 0 (by omega) acc (by omega) ?_
    rw [w64i hlt (by omega)]
    refine ih (i + 1) (by omega) _ (by have := extF_len Q[i] n 0; rw [List.length_append]; omega) ?_
    rw [List.drop_eq_getElem_cons hlt, List.flatMap_cons, ← List.append_assoc] at h
    exact h
theorem ordsTo_len (n : Nat) (hn : n ≤ 6) : ∀ j, (ordsTo n j).length ≤ 6 ^ j
  | 0 => by simp [ordsTo]
  | j + 1 => by
    have h1 := ordsTo_len n hn j
    rw [ordsTo_succ, Nat.pow_succ]
    have : ∀ l : List (List Int), (l.flatMap fun p => extF p 0 n).length ≤ l.length * 6 := by
      intro l
      induction l with
      | nil => simp
      | cons p l ih =>
        have := extF_len p n 0
        rw [List.flatMap_cons, List.length_append, List.length_cons]
        omega
    have := this (ordsTo n j)
    omega
theorem ordsTo_ne {n j : Nat} (h : j ≤ n) : 0 < (ordsTo n j).length := by
  have hi := ident_isP j
  exact List.length_pos_of_mem (ordsTo_mem j (ident j) hi.1 hi.2.1 (fun v hv => by have := (hi.2.2 v).1 hv; omega))
theorem alOrders_l0 (n : Nat) (hn : n ≤ 6) : ∀ d j : Nat, j + d = n → Ev (fun k => spec_alOrders.l0 k (n : Int) (ordsTo n j)) (ords n) := by
  intro d
  induction d with
  | zero =>
    intro j hj
    have hne := ordsTo_ne (n := n) (j := j) (by omega)
    have hle := (ordsTo_isP (n := n) j (ordsTo n j)[0] (List.getElem_mem hne)).1
    refine Ev.step (fun k => by rw [spec_alOrders.l0]) ?_
    refine Ev.yes (by omega) ?_
    rw [show ((0 : Int)) = ((0 : Nat) : Int) from rfl, rdL3_nat hne]
    refine Ev.no (by omega) (Ev.ret ?_)
    obtain rfl : j = n := by omega
    rfl
  | succ d ih =>
    intro j hj
    have hne := ordsTo_ne (n := n) (j := j) (by omega)
    have hle := (ordsTo_isP (n := n) j (ordsTo n j)[0] (List.getElem_mem hne)).1
    have hlen := ordsTo_len n hn j
    have hpow : 6 ^ j ≤ 7776 := Nat.le_trans (Nat.pow_le_pow_right (by decide) (by omega : j ≤ 5)) (by decide)
    have hlen' : (ordsTo n j).length ≤ 7776 := Nat.le_trans hlen hpow
    clear hlen hpow
    refine Ev.step (fun k => by rw [spec_alOrders.l0]) ?_
    refine Ev.yes (by omega) ?_
    rw [show ((0 : Int)) = ((0 : Nat) : Int) from rfl, rdL3_nat hne]
    refine Ev.yes (by omega) ?_
    refine alOrders_l1 n hn (ordsTo n j) (fun p hp => by have := (ordsTo_isP j p hp).1; omega) (by omega) _ (ordsTo n j).length 0 (by omega) [] (by simp; omega) ?_
    rw [List.drop_zero, List.nil_append, ← ordsTo_succ]
    exact ih (j + 1) (by omega)
theorem alOrders_ev {n : Nat} (hn : n ≤ 6) : Ev (fun k => spec_alOrders.f k (n : Int)) (ords n) := by
  unfold spec_alOrders.f
  exact alOrders_l0 n hn n 0 (by omega)
end Go.Proofs.Ytlmlamkbedfmhaa.P
end
section
set_option linter.unusedVariables false
set_option linter.unusedSimpArgs false
namespace Go.Proofs.Ytlmlamkbedfmhaa.P
open Go.RowKit Go.Proofs.YtlmlamkbedfmhaaW.PrintWords Go.Proofs.YtlmlamkbedfmhaaW.PrintLast Go.Proofs.YtlmlamkbedfmhaaW.PrintMore

/-- The levels, not empty, with rungs from r on, of which there are d. -/
def tailL : Nat → Nat → List (List Int)
  | 0, _ => []
  | 1, r => [[(r : Int)]]
  | d + 2, r => ([[]] ++ tailL d (r + 2)).map (fun l => (r : Int) :: l) ++ tailL (d + 1) (r + 1)
def levelsP (n : Nat) : List (List Int) := [[]] ++ tailL (n - 1) 0
theorem tailL_succ (d r : Nat) : tailL (d + 1) r = ([[]] ++ tailL (d - 1) (r + 2)).map (fun l => (r : Int) :: l) ++ tailL d (r + 1) := by
  cases d with
  | zero => simp [tailL]
  | succ d => simp only [tailL, Nat.add_sub_cancel]
theorem tailL_len : ∀ d r, (tailL d r).length + 1 ≤ 2 ^ d := by
  intro d
  induction d using Nat.strongRecOn with
  | _ d ih =>
    intro r
    cases d with
    | zero => simp [tailL]
    | succ d =>
      have h1 := ih d (by omega) (r + 1)
      have h2 := ih (d - 1) (by omega) (r + 2)
      have h3 : 2 ^ (d - 1) ≤ 2 ^ d := Nat.pow_le_pow_right (by omega) (by omega)
      rw [tailL_succ, Nat.pow_succ]
      simp only [List.length_append, List.length_map, List.length_cons, List.length_nil]
      generalize 2 ^ d = a at *
      generalize 2 ^ (d - 1) = b at *
      omega
theorem tailL_in : ∀ d r, ∀ l ∈ tailL d r, l.length ≤ d ∧ ∀ x ∈ l, (r : Int) ≤ x ∧ x < (r + d : Nat) := by
  intro d
  induction d using Nat.strongRecOn with
  | _ d ih =>
    intro r l hl
    cases d with
    | zero => simp [tailL] at hl
    | succ d =>
      rw [tailL_succ, List.mem_append] at hl
      rcases hl with hl | hl
      · rw [List.mem_map] at hl
        obtain ⟨q, hq, rfl⟩ := hl
        rw [List.mem_append] at hq
        rcases hq with hq | hq
        · simp at hq; subst hq
          refine ⟨by simp, fun x hx => ?_⟩
          simp at hx; omega
        · have := ih (d - 1) (by omega) (r + 2) q hq
          refine ⟨by simp; omega, fun x hx => ?_⟩
          rcases List.mem_cons.1 hx with rfl | hx
          · omega
          · have hd : d ≠ 0 := by
              rintro rfl
              simp [tailL] at hq
            have := this.2 x hx
            omega
      · have := ih d (by omega) (r + 1) l hl
        refine ⟨by omega, fun x hx => ?_⟩
        have := this.2 x hx; omega
theorem tailL_one : ∀ d r x : Nat, r ≤ x → x < r + d → [(x : Int)] ∈ tailL d r := by
  intro d
  induction d with
  | zero => intro r x h1 h2; omega
  | succ d ih =>
    intro r x h1 h2
    rw [tailL_succ, List.mem_append]
    by_cases g : x = r
    · subst g
      left
      rw [List.mem_map]
      exact ⟨[], by simp, rfl⟩
    · right
      exact ih (r + 1) x (by omega) (by omega)
theorem levelsP_ok {n : Nat} (h : 2 ≤ n) (h6 : n ≤ 6) : ∀ l ∈ levelsP n, levelOk n l := by
  intro l hl
  unfold levelsP at hl
  rw [List.mem_append] at hl
  rcases hl with hl | hl
  · simp at hl; subst hl; exact ⟨by simp, by simp⟩
  · have := tailL_in _ _ l hl
    refine ⟨fun r hr => ?_, by omega⟩
    have := this.2 r hr; omega
theorem levelsP_one {n : Nat} (h : 2 ≤ n) : ∀ r : Nat, r + 1 < n → [(r : Int)] ∈ levelsP n := by
  intro r hr
  unfold levelsP
  rw [List.mem_append]
  right
  exact tailL_one _ _ _ (by omega) (by omega)
theorem levelsP_len {n : Nat} (h6 : n ≤ 6) : (levelsP n).length ≤ 32 := by
  have h1 := tailL_len (n - 1) 0
  have h2 : 2 ^ (n - 1) ≤ 2 ^ 5 := Nat.pow_le_pow_right (by omega) (by omega)
  have h3 : (2 : Nat) ^ 5 = 32 := by decide
  simp only [levelsP, List.length_append, List.length_cons, List.length_nil]
  omega
/-! ### the model's list -/
theorem lvAll_l1 (n : Nat) (r : Int) (T : List (List Int)) (hT : ∀ l ∈ T, l.length ≤ 1000) (hTl : T.length ≤ 1000) (R : List (List Int)) : ∀ d i : Nat, i + d = T.length → ∀ acc : List (List Int), acc.length + d ≤ 1000000000 →
    Ev (fun k => spec_lvAll.l0 k (n : Int) (acc ++ (T.drop i).map fun l => r :: l) (wrap64 (r + 1))) R → Ev (fun k => spec_lvAll.l1 k (n : Int) acc r T (T.length : Int) (i : Int)) R := by
  intro d
  induction d with
  | zero =>
    intro i hi acc ha h
    refine Ev.step (fun k => by rw [spec_lvAll.l1]) ?_
    refine Ev.no (by omega) ?_
    rw [List.drop_eq_nil_of_le (by omega)] at h
    simpa using h
  | succ d ih =>
    intro i hi acc ha h
    have hlt : i < T.length := by omega
    have hTi := hT T[i] (List.getElem_mem hlt)
    refine Ev.step (fun k => by rw [spec_lvAll.l1]) ?_
    refine Ev.yes (by omega) (Ev.yes (by omega) (Ev.yes (by omega) ?_))
    rw [rdL3_nat hlt, w64i hlt (by omega)]
    refine Ev.known rfl (Ev.yes (by simp; omega) (Ev.yes (by omega) ?_))
    refine ih (i + 1) (by omega) _ (by simp; omega) ?_
    rw [List.drop_eq_getElem_cons hlt, List.map_cons] at h
    simpa using h
theorem lvAll_l0 (n : Nat) (h : 2 ≤ n) (h6 : n ≤ 6) : ∀ d r : Nat, r + d = n - 1 ∨ (d = 0 ∧ r = n) → ∀ acc : List (List Int), acc.length + 1000 * d ≤ 1000000 →
    Ev (fun k => spec_lvAll.l0 k (n : Int) acc (r : Int)) (acc ++ tailL d r) := by
  intro d
  induction d using Nat.strongRecOn with
  | _ d ih =>
    intro r hr acc ha
    have e : wrap64 ((n : Int) - 1) = ((n - 1 : Nat) : Int) := by rw [w64 (by omega) (by omega)]; omega
    refine Ev.step (fun k => by rw [spec_lvAll.l0]) ?_
    rw [e]
    cases d with
    | zero =>
      refine Ev.no (by omega) (Ev.ret ?_)
      simp [tailL]
    | succ d =>
      have hr' : r + (d + 1) = n - 1 := by omega
      have e2 : wrap64 ((r : Int) + 2) = ((r + 2 : Nat) : Int) := by rw [w64 (by omega) (by omega)]; omega
      have e1 : wrap64 ((r : Int) + 1) = ((r + 1 : Nat) : Int) := by rw [w64 (by omega) (by omega)]; omega
      refine Ev.yes (by omega) ?_
      rw [e2]
      have hf : Ev (fun k => spec_lvAll.f k (n : Int) ((r + 2 : Nat) : Int)) ([[]] ++ tailL (d - 1) (r + 2)) := by
        refine Ev.step (fun k => by rw [spec_lvAll.f]) ?_
        exact ih (d - 1) (by omega) (r + 2) (by omega) [[]] (by simp; omega)
      refine Ev.bind hf ?_
      have hlen := tailL_len (d - 1) (r + 2)
      have h2 : 2 ^ (d - 1) ≤ 2 ^ 5 := Nat.pow_le_pow_right (by omega) (by omega)
      have h3 : (2 : Nat) ^ 5 = 32 := by decide
      have hlen' : (tailL (d - 1) (r + 2)).length ≤ 31 := by omega
      clear hlen h2 h3
      refine lvAll_l1 n r ([[]] ++ tailL (d - 1) (r + 2)) ?_ (by simp; omega) _ _ 0 (Nat.zero_add _) acc (by simp; omega) ?_
      · intro l hl
        rw [List.mem_append] at hl
        rcases hl with hl | hl
        · simp at hl; subst hl; simp
        · have := (tailL_in _ _ l hl).1; omega
      · rw [List.drop_zero, e1]
        refine Ev.eq (ih d (by omega) (r + 1) (by omega) _ (by simp; omega)) ?_
        rw [tailL_succ, List.append_assoc]
theorem lvAll_ev {n : Nat} (h : 2 ≤ n) (h6 : n ≤ 6) : Ev (fun k => spec_lvAll.f k (n : Int) 0) (levelsP n) := by
  refine Ev.step (fun k => by rw [spec_lvAll.f]) ?_
  exact lvAll_l0 n h h6 (n - 1) 0 (by omega) [[]] (by simp; omega)
/-! ### the program's list -/
theorem lev_bounds {o t d : Nat} (ht : t + 1 ≤ 2 ^ (d - 1)) (ho : o + 2 ^ (d + 1) ≤ 1000000) : o < 5864062014805 ∧ o + 1 + 2 ^ (d - 1) ≤ 1000000 ∧ o + 1 + t + 2 ^ d ≤ 1000000 := by
  have h3 : 2 ^ (d - 1) ≤ 2 ^ d := Nat.pow_le_pow_right (by decide) (Nat.sub_le d 1)
  have h4 : 1 ≤ 2 ^ (d - 1) := Nat.one_le_two_pow
  rw [Nat.pow_succ] at ho
  revert ht ho h3 h4
  generalize 2 ^ d = a
  generalize 2 ^ (d - 1) = b
  intro ht ho h3 h4
  omega
theorem allLevels_l0 (n : Nat) (h : 2 ≤ n) (h6 : n ≤ 6) : ∀ d r : Nat, r + d = n - 1 ∨ (d = 0 ∧ r = n) → ∀ dl : List Int, dl.length ≤ 1000 - d → ∀ out : List (List Int), out.length + 2 ^ d ≤ 1000000 →
    Ev (fun k => impl_allLevels.l0 k (n : Int) dl (r : Int) out) (out ++ (tailL d r).map fun l => dl ++ l) := by
  intro d
  induction d using Nat.strongRecOn with
  | _ d ih =>
    intro r hr dl hdl out ho
    have e : wrap64 ((n : Int) - 2) = (n : Int) - 2 := w64 (by omega) (by omega)
    refine Ev.step (fun k => by rw [impl_allLevels.l0]) ?_
    rw [e]
    cases d with
    | zero =>
      refine Ev.no (by omega) (Ev.ret ?_)
      rw [tailL, List.map_nil, List.append_nil]
    | succ d =>
      have hr' : r + (d + 1) = n - 1 := by omega
      have hc : (r : Int) ≤ (n : Int) - 2 := by omega
      have hdl1 : dl.length < 17592186044416 := by omega
      refine Ev.yes hc ?_
      refine Ev.known (a := dl) (by unfold slices_Clone_int_int.f; rw [if_pos hdl1]) ?_
      refine Ev.yes hdl1 ?_
      have e2 : wrap64 ((r : Int) + 2) = ((r + 2 : Nat) : Int) := by rw [w64 (by omega) (by omega)]; omega
      have e1 : wrap64 ((r : Int) + 1) = ((r + 1 : Nat) : Int) := w64i (n := n) (by clear ho ih; omega) (by clear ho ih; omega)
      rw [e2]
      have bs := lev_bounds (tailL_len (d - 1) (r + 2)) ho
      have b1 := bs.1
      have b2 := bs.2.1
      have b3 := bs.2.2
      clear ho bs
      have hf : Ev (fun k => impl_allLevels.f k (n : Int) (dl ++ [(r : Int)]) ((r + 2 : Nat) : Int) out) (out ++ [dl ++ [(r : Int)]] ++ (tailL (d - 1) (r + 2)).map fun l => (dl ++ [(r : Int)]) ++ l) := by
        refine Ev.step (fun k => by rw [impl_allLevels.f]) ?_
        refine Ev.yes b1 ?_
        exact ih (d - 1) (by omega) (r + 2) (by omega) (dl ++ [(r : Int)]) (by rw [List.length_append, List.length_singleton]; omega) _ (by rw [List.length_append, List.length_singleton]; exact b2)
      refine Ev.bind hf ?_
      rw [e1]
      refine Ev.eq (ih d (by omega) (r + 1) (by omega) dl (by omega) _ ?_) ?_
      · rw [List.length_append, List.length_map, List.length_append, List.length_singleton]
        exact b3
      · rw [tailL_succ]
        simp only [List.map_append, List.map_map, List.map_cons, List.map_nil, List.append_assoc, Function.comp_def, List.cons_append, List.nil_append]
theorem allLevels_ev {n : Nat} (h : 2 ≤ n) (h6 : n ≤ 6) : Ev (fun k => impl_allLevels.f k (n : Int) [] 0 []) (levelsP n) := by
  refine Ev.step (fun k => by rw [impl_allLevels.f]) ?_
  refine Ev.yes (by show 0 < 5864062014805; omega) ?_
  have h2 : 2 ^ (n - 1) ≤ 32 := Nat.le_trans (Nat.pow_le_pow_right (by decide) (by omega : n - 1 ≤ 5)) (by decide)
  refine Ev.eq (allLevels_l0 n h h6 (n - 1) 0 (by omega) [] (Nat.zero_le _) _ (by show 1 + 2 ^ (n - 1) ≤ 1000000; omega)) ?_
  simp only [levelsP, List.nil_append, List.map_id'', List.map_id', List.map_id, id]
end Go.Proofs.Ytlmlamkbedfmhaa.P
end
section
set_option linter.unusedVariables false
set_option linter.unusedSimpArgs false
namespace Go.Proofs.Ytlmlamkbedfmhaa.P
open Go.RowKit Go.Proofs.YtlmlamkbedfmhaaW.PrintWords Go.Proofs.YtlmlamkbedfmhaaW.PrintLast Go.Proofs.YtlmlamkbedfmhaaW.PrintMore

def farOf (n : Nat) (S : List (List Int × Int)) : List Int := (ords n).map fun p => depOf S p
def qOf (S : List (List Int × Int)) : List Int := S.map fun e => ((rankP e.1 : Nat) : Int)
theorem farOf_len (n : Nat) (S : List (List Int × Int)) : (farOf n S).length = (ords n).length := by simp [farOf]
theorem farOf_at {n : Nat} (h : 2 ≤ n) (h6 : n ≤ 6) (S : List (List Int × Int)) {p : List Int} (hp : isP n p) : rd (farOf n S) ((rankP p : Nat) : Int) = depOf S p := by
  obtain ⟨hr, e⟩ := ords_rank h h6 hp
  rw [rd_nat (by rw [farOf_len]; exact hr)]
  simp only [farOf, List.getElem_map, e]
theorem farOf_snoc {n : Nat} (h : 2 ≤ n) (h6 : n ≤ 6) {S : List (List Int × Int)} {q : List Int} (hq : isP n q) (hno : q ∉ S.map Prod.fst) (d : Int) :
    (farOf n S).set (((rankP q : Nat) : Int)).toNat d = farOf n (S ++ [(q, d)]) := by
  rw [Int.toNat_natCast]
  refine List.ext_getElem (by simp [farOf]) ?_
  intro r h1 h2
  rw [List.length_set, farOf_len] at h1
  rw [List.getElem_set]
  simp only [farOf, List.getElem_map, depOf_snoc hno]
  obtain ⟨hr, e⟩ := ords_rank h h6 hq
  by_cases g : rankP q = r
  · subst g
    rw [if_pos rfl, if_pos e]
  · rw [if_neg g, if_neg]
    intro g2
    apply g
    rw [← g2]
    exact rank_ords h h6 h1
theorem qOf_snoc (S : List (List Int × Int)) (q : List Int) (d : Int) : qOf S ++ [((rankP q : Nat) : Int)] = qOf (S ++ [(q, d)]) := by simp [qOf]
theorem qOf_len (S : List (List Int × Int)) : (qOf S).length = S.length := by simp [qOf]
theorem qOf_at {S : List (List Int × Int)} {i : Nat} (hi : i < S.length) : rd (qOf S) (i : Int) = ((rankP S[i].1 : Nat) : Int) := by
  rw [rd_nat (by rw [qOf_len]; exact hi)]; simp [qOf]
theorem ords_le {n : Nat} (h : 2 ≤ n) (h6 : n ≤ 6) : (ords n).length ≤ 720 := by rw [ords_len h h6]; exact facN_le n
theorem lvFar_l2 {n : Nat} (h : 2 ≤ n) (h6 : n ≤ 6) (L : List (List Int)) (hL : ∀ l ∈ L, levelOk n l) (hLl : L.length ≤ 1000) (i : Nat) (e : List Int × Int) (he : isP n e.1) (R : List Int) :
    ∀ d j : Nat, j + d = L.length → ∀ S : List (List Int × Int), FInv n S → (∃ hi : i < S.length, S[i] = e) →
    Ev (fun k => spec_lvFar.l1 k (ords n) (farOf n ((L.drop j).foldl (fun S l => fstep e.2 S (laidP e.1 l)) S)) (qOf ((L.drop j).foldl (fun S l => fstep e.2 S (laidP e.1 l)) S)) L ((i + 1 : Nat) : Int)) R →
    Ev (fun k => spec_lvFar.l2 k (ords n) (farOf n S) (qOf S) L (i : Int) L (L.length : Int) (j : Int)) R := by
  intro d
  induction d with
  | zero =>
    intro j hj S H hi hh
    obtain ⟨hi, ei⟩ := hi
    have hSl := H.len h h6
    have hf := facN_le n
    refine Ev.step (fun k => by rw [spec_lvFar.l2]) ?_
    refine Ev.no (by omega) ?_
    rw [List.drop_eq_nil_of_le (by omega)] at hh
    rw [w64i hi (by omega)]
    exact hh
  | succ d ih =>
    intro j hj S H hi hh
    obtain ⟨hi, ei⟩ := hi
    have hSl := H.len h h6
    have hf := facN_le n
    have hlt : j < L.length := by omega
    have hoL := ords_le h h6
    have hq : isP n (laidP e.1 L[j]) := laidP_isP he L[j]
    obtain ⟨hre, eqe⟩ := ords_rank h h6 he
    obtain ⟨hrq, eqq⟩ := ords_rank h h6 hq
    have hmem : e ∈ S := ei ▸ List.getElem_mem hi
    have hdep := H.dep e hmem
    rw [List.drop_eq_getElem_cons hlt, List.foldl_cons] at hh
    refine Ev.step (fun k => by rw [spec_lvFar.l2]) ?_
    rw [qOf_at hi, ei, qOf_len, farOf_len, w64i hlt (by omega)]
    refine Ev.yes (by omega) (Ev.yes (by omega) (Ev.yes (by omega) (Ev.yes (by omega) (Ev.yes (by omega) (Ev.yes (by omega) (Ev.yes (by omega) ?_))))))
    rw [rdL3_nat hre, rdL3_nat hlt, eqe]
    refine Ev.bind (lvTop_ev (n := n) (by omega) (hL _ (List.getElem_mem hlt)) he.1) ?_
    refine Ev.bind (alRank_ev hq h6) ?_
    refine Ev.yes (by omega) (Ev.yes (by omega) ?_)
    rw [farOf_at h h6 S hq, farOf_at h h6 S he, depOf_mem H.nd hmem]
    by_cases g : laidP e.1 L[j] ∈ S.map Prod.fst
    · obtain ⟨x, hx, ex⟩ := List.mem_map.1 g
      have hxd := H.dep x hx
      have hd0 : depOf S (laidP e.1 L[j]) = x.2 := by rw [← ex]; exact depOf_mem H.nd hx
      refine Ev.no (by rw [hd0]; omega) ?_
      have e2 : fstep e.2 S (laidP e.1 L[j]) = S := by unfold fstep; rw [if_pos g]
      rw [e2] at hh
      exact ih (j + 1) (by omega) S H ⟨hi, ei⟩ hh
    · refine Ev.yes (by rw [depOf_none g]; omega) (Ev.yes (by omega) (Ev.yes (by omega) ?_))
      have e2 : fstep e.2 S (laidP e.1 L[j]) = S ++ [(laidP e.1 L[j], e.2 + 1)] := by unfold fstep; rw [if_neg g]
      have H2 := H.step hdep.1 hdep.2 hq
      rw [e2] at hh H2
      rw [w64 (x := e.2 + 1) (by omega) (by omega), farOf_snoc h h6 hq g, qOf_snoc S _ (e.2 + 1)]
      refine ih (j + 1) (by omega) _ H2 ⟨by rw [List.length_append]; omega, ?_⟩ hh
      rw [List.getElem_append_left hi]; exact ei
theorem lvFar_l1 {n : Nat} (h : 2 ≤ n) (h6 : n ≤ 6) (L : List (List Int)) (hL : ∀ l ∈ L, levelOk n l) (hLl : L.length ≤ 1000) : ∀ (m i : Nat) (S F : List (List Int × Int)), FInv n S → fbfs L m i S = some F →
    Ev (fun k => spec_lvFar.l1 k (ords n) (farOf n S) (qOf S) L (i : Int)) (farOf n F) := by
  intro m
  induction m with
  | zero => intro i S F H hF; simp [fbfs] at hF
  | succ m ih =>
    intro i S F H hF
    unfold fbfs at hF
    refine Ev.step (fun k => by rw [spec_lvFar.l1]) ?_
    rw [qOf_len]
    by_cases c : i < S.length
    · rw [dif_pos c] at hF
      obtain ⟨H1, p1, _⟩ := fvisit_ok (L := L) H c
      refine Ev.yes (by omega) ?_
      refine lvFar_l2 h h6 L hL hLl i S[i] (H.ord _ (List.getElem_mem c)) _ L.length 0 (by omega) S H ⟨c, rfl⟩ ?_
      rw [List.drop_zero]
      exact ih (i + 1) _ F H1 hF
    · rw [dif_neg c] at hF
      refine Ev.no (by omega) (Ev.ret ?_)
      rw [Option.some.inj hF]
theorem rank_home {n : Nat} (h : 2 ≤ n) (h6 : n ≤ 6) : rankP (ident n) = 0 := by
  rcases (by omega : n = 2 ∨ n = 3 ∨ n = 4 ∨ n = 5 ∨ n = 6) with rfl | rfl | rfl | rfl | rfl <;> decide +kernel
theorem far_first {n : Nat} (h : 2 ≤ n) (h6 : n ≤ 6) : (List.replicate (ords n).length (-1 : Int)).set (0 : Int).toNat 0 = farOf n [(ident n, 0)] := by
  have := farOf_snoc h h6 (S := []) (ident_isP n) (by simp) 0
  rw [rank_home h h6] at this
  rw [List.nil_append] at this
  rw [← this]
  congr 1
  simp only [farOf]
  refine List.ext_getElem (by simp) ?_
  intro r h1 h2
  simp [depOf]
theorem lvFar_l0 {n : Nat} (h : 2 ≤ n) (h6 : n ≤ 6) (r : List Int) (hr : Ev (fun k => spec_lvFar.l1 k (ords n) (farOf n [(ident n, 0)]) (qOf [(ident n, 0)]) (levelsP n) 0) r) : ∀ d i : Nat, i + d = (ords n).length →
    Ev (fun k => spec_lvFar.l0 k (n : Int) (ords n) (List.replicate i (-1) ++ List.replicate d 0) ((ords n).length : Int) (i : Int)) r := by
  have hoL := ords_le h h6
  have hpos := ordsTo_ne (n := n) (j := n) (Nat.le_refl n)
  intro d
  induction d with
  | zero =>
    intro i hi
    refine Ev.step (fun k => by rw [spec_lvFar.l0]) ?_
    refine Ev.no (by omega) ?_
    rw [List.replicate_zero, List.append_nil, List.length_replicate]
    refine Ev.yes (by have : 0 < (ords n).length := hpos; omega) ?_
    refine Ev.bind (lvAll_ev h h6) ?_
    obtain rfl : i = (ords n).length := by omega
    rw [far_first h h6]
    have e : ([0] : List Int) = qOf [(ident n, 0)] := by simp [qOf, rank_home h h6]
    rw [e]
    exact hr
  | succ d ih =>
    intro i hi
    refine Ev.step (fun k => by rw [spec_lvFar.l0]) ?_
    rw [w64i (by omega : i < (ords n).length) (by omega)]
    refine Ev.yes (by omega) (Ev.yes (by omega) (Ev.yes (by simp; omega) ?_))
    have e : (List.replicate i (-1 : Int) ++ List.replicate (d + 1) 0).set ((i : Nat) : Int).toNat (-1) = List.replicate (i + 1) (-1) ++ List.replicate d 0 := by
      rw [Int.toNat_natCast, List.set_append_right _ _ (by simp), List.length_replicate, Nat.sub_self, List.replicate_succ, List.set_cons_zero, List.replicate_succ']
      simp
    rw [e]
    exact ih (i + 1) (by omega)
/-- The model's depths by rank. -/
theorem lvFar_ev {n : Nat} (h : 2 ≤ n) (h6 : n ≤ 6) {m : Nat} {F : List (List Int × Int)} (hF : fbfs (levelsP n) m 0 [(ident n, 0)] = some F) : Ev (fun k => spec_lvFar.f k (n : Int)) (farOf n F) := by
  have hoL := ords_le h h6
  unfold spec_lvFar.f
  refine Ev.bind (alOrders_ev h6) ?_
  refine Ev.yes (by omega) (Ev.yes (by rw [Int.toNat_natCast]; omega) ?_)
  refine Ev.known rfl ?_
  rw [Int.toNat_natCast, List.length_replicate]
  have := lvFar_l0 h h6 (farOf n F) (lvFar_l1 h h6 (levelsP n) (levelsP_ok h h6) (by have := levelsP_len (n := n) h6; omega) m 0 [(ident n, 0)] F ⟨by simp, by simp [ident_isP], by simp⟩ hF) (ords n).length 0 (by omega)
  simpa using this
end Go.Proofs.Ytlmlamkbedfmhaa.P
end
section
set_option linter.unusedVariables false
set_option linter.unusedSimpArgs false
namespace Go.Proofs.Ytlmlamkbedfmhaa.P
open Go.RowKit Go.Proofs.YtlmlamkbedfmhaaW.PrintWords Go.Proofs.YtlmlamkbedfmhaaW.PrintLast Go.Proofs.YtlmlamkbedfmhaaW.PrintMore

def mapOf (S : List (List Int × Int)) : List (ByteArray × Int) := (S.map fun e => (keyP e.1, e.2)).reverse
theorem mapOf_snoc (S : List (List Int × Int)) (q : List Int) (d : Int) : mapOf (S ++ [(q, d)]) = (keyP q, d) :: mapOf S := by simp [mapOf]
theorem mapOf_len (S : List (List Int × Int)) : (mapOf S).length = S.length := by simp [mapOf]
theorem mhas_iff (key : ByteArray) : ∀ M : List (ByteArray × Int), mhas M key = true ↔ key ∈ M.map Prod.fst
  | [] => by simp [mhas]
  | e :: M => by
    unfold mhas
    by_cases g : e.1 = key
    · simp [g]
    · rw [if_neg g, mhas_iff key M, List.map_cons, List.mem_cons]
      constructor
      · exact fun h => .inr h
      · rintro (h | h)
        · exact absurd h.symm g
        · exact h
theorem mget_of {key : ByteArray} {v : Int} : ∀ {M : List (ByteArray × Int)}, (M.map Prod.fst).Nodup → (key, v) ∈ M → mget M key = v
  | [], _, h => by simp at h
  | e :: M, hn, h => by
    rw [List.map_cons, List.nodup_cons] at hn
    unfold mget
    rcases List.mem_cons.1 h with h | h
    · rw [← h, if_pos rfl]
    · have : e.1 ≠ key := by
        rintro rfl
        exact hn.1 (List.mem_map.2 ⟨_, h, rfl⟩)
      rw [if_neg this]
      exact mget_of hn.2 h
theorem mapOf_nodup {n : Nat} {S : List (List Int × Int)} (H : FInv n S) (h6 : n ≤ 6) : ((mapOf S).map Prod.fst).Nodup := by
  have h1 : (mapOf S).map Prod.fst = (S.map fun e => keyP e.1).reverse := by simp [mapOf, List.map_reverse, List.map_map, Function.comp_def]
  rw [h1, List.Nodup, List.pairwise_reverse, List.pairwise_map]
  have h2 := H.nd
  rw [List.Nodup, List.pairwise_map] at h2
  refine List.Pairwise.imp_of_mem ?_ h2
  intro a b ha hb hab e
  exact hab (keyP_inj (isP_small (H.ord a ha) h6) (isP_small (H.ord b hb) h6) e.symm)
theorem mapOf_get {n : Nat} {S : List (List Int × Int)} (H : FInv n S) (h6 : n ≤ 6) {e : List Int × Int} (he : e ∈ S) : mget (mapOf S) (keyP e.1) = e.2 := by
  refine mget_of (mapOf_nodup H h6) ?_
  simp only [mapOf, List.mem_reverse, List.mem_map]
  exact ⟨e, he, rfl⟩
theorem mapOf_has {n : Nat} {S : List (List Int × Int)} (H : FInv n S) (h6 : n ≤ 6) {p : List Int} (hp : isP n p) : mhas (mapOf S) (keyP p) = true ↔ p ∈ S.map Prod.fst := by
  rw [mhas_iff]
  simp only [mapOf, List.mem_map, List.mem_reverse]
  constructor
  · rintro ⟨x, ⟨e, he, rfl⟩, hx⟩
    exact ⟨e, he, keyP_inj (isP_small (H.ord e he) h6) (isP_small hp h6) hx⟩
  · rintro ⟨e, he, rfl⟩
    exact ⟨_, ⟨e, he, rfl⟩, rfl⟩
theorem queue_at {S : List (List Int × Int)} {i : Nat} (hi : i < S.length) : rd_L3 (S.map Prod.fst) (i : Int) = S[i].1 := by
  rw [rdL3_nat (by simpa using hi)]; simp
theorem key_evP {n : Nat} {p : List Int} (h : isP n p) (h6 : n ≤ 6) : Ev (fun k => impl_orderKey.f k p) (keyP p) := key_ev (isP_small h h6) (by rw [h.1]; omega)
theorem keyP_small {n : Nat} {p : List Int} (h : isP n p) (h6 : n ≤ 6) : (keyP p).size ≤ 1000 := by rw [keyP_size, h.1]; omega
theorem depths_l1 {n : Nat} (h : 2 ≤ n) (h6 : n ≤ 6) (L : List (List Int)) (hL : ∀ l ∈ L, levelOk n l) (hLl : L.length ≤ 1000) (i : Nat) (e : List Int × Int) (he : isP n e.1) (R : List (ByteArray × Int)) :
    ∀ d j : Nat, j + d = L.length → ∀ S : List (List Int × Int), FInv n S → (∃ hi : i < S.length, S[i] = e) →
    Ev (fun k => impl_depths.l0 k L (((L.drop j).foldl (fun S l => fstep e.2 S (laidP e.1 l)) S).map Prod.fst) (mapOf ((L.drop j).foldl (fun S l => fstep e.2 S (laidP e.1 l)) S)) ((i + 1 : Nat) : Int)) R →
    Ev (fun k => impl_depths.l1 k L (S.map Prod.fst) (mapOf S) (i : Int) e.2 (j : Int)) R := by
  intro d
  induction d with
  | zero =>
    intro j hj S H hi hh
    obtain ⟨hi, ei⟩ := hi
    have hSl := H.len h h6
    have hf := facN_le n
    refine Ev.step (fun k => by rw [impl_depths.l1]) ?_
    refine Ev.no (by omega) ?_
    rw [List.drop_eq_nil_of_le (by omega)] at hh
    rw [w64i hi (by omega)]
    exact hh
  | succ d ih =>
    intro j hj S H hi hh
    obtain ⟨hi, ei⟩ := hi
    have hSl := H.len h h6
    have hf := facN_le n
    have hlt : j < L.length := by omega
    have hq : isP n (laidP e.1 L[j]) := laidP_isP he L[j]
    have hmem : e ∈ S := ei ▸ List.getElem_mem hi
    have hdep := H.dep e hmem
    rw [List.drop_eq_getElem_cons hlt, List.foldl_cons] at hh
    refine Ev.step (fun k => by rw [impl_depths.l1]) ?_
    rw [queue_at hi, ei, w64i hlt (by omega), rdL3_nat hlt]
    refine Ev.yes (by omega) (Ev.yes (by omega) (Ev.yes (by omega) (Ev.yes (by rw [List.length_map]; omega) ?_)))
    refine Ev.bind (laid_ev (n := n) (by omega) (hL _ (List.getElem_mem hlt)) he.1) ?_
    refine Ev.bind (key_evP hq h6) ?_
    refine Ev.yes (keyP_small hq h6) ?_
    by_cases g : laidP e.1 L[j] ∈ S.map Prod.fst
    · refine Ev.yes ((mapOf_has H h6 hq).2 g) ?_
      have e2 : fstep e.2 S (laidP e.1 L[j]) = S := by unfold fstep; rw [if_pos g]
      rw [e2] at hh
      exact ih (j + 1) (by omega) S H ⟨hi, ei⟩ hh
    · refine Ev.no (fun c => g ((mapOf_has H h6 hq).1 c)) (Ev.yes (by rw [List.length_map]; omega) (Ev.yes (by rw [mapOf_len]; omega) ?_))
      have e2 : fstep e.2 S (laidP e.1 L[j]) = S ++ [(laidP e.1 L[j], e.2 + 1)] := by unfold fstep; rw [if_neg g]
      have H2 := H.step hdep.1 hdep.2 hq
      rw [e2] at hh H2
      have e3 : S.map Prod.fst ++ [laidP e.1 L[j]] = (S ++ [(laidP e.1 L[j], e.2 + 1)]).map Prod.fst := by simp
      rw [w64 (x := e.2 + 1) (by omega) (by omega), ← mapOf_snoc, e3]
      refine ih (j + 1) (by omega) _ H2 ⟨by rw [List.length_append]; omega, ?_⟩ hh
      rw [List.getElem_append_left hi]; exact ei
theorem depths_l0 {n : Nat} (h : 2 ≤ n) (h6 : n ≤ 6) (L : List (List Int)) (hL : ∀ l ∈ L, levelOk n l) (hLl : L.length ≤ 1000) : ∀ (m i : Nat) (S F : List (List Int × Int)), FInv n S → fbfs L m i S = some F →
    Ev (fun k => impl_depths.l0 k L (S.map Prod.fst) (mapOf S) (i : Int)) (mapOf F) := by
  intro m
  induction m with
  | zero => intro i S F H hF; simp [fbfs] at hF
  | succ m ih =>
    intro i S F H hF
    unfold fbfs at hF
    refine Ev.step (fun k => by rw [impl_depths.l0]) ?_
    by_cases c : i < S.length
    · rw [dif_pos c] at hF
      obtain ⟨H1, p1, _⟩ := fvisit_ok (L := L) H c
      have hi := H.ord _ (List.getElem_mem c)
      refine Ev.yes (by rw [List.length_map]; omega) (Ev.yes (by omega) ?_)
      rw [queue_at c]
      refine Ev.bind (key_evP hi h6) (Ev.yes (keyP_small hi h6) ?_)
      rw [mapOf_get H h6 (List.getElem_mem c)]
      refine depths_l1 h h6 L hL hLl i S[i] hi _ L.length 0 (by omega) S H ⟨c, rfl⟩ ?_
      rw [List.drop_zero]
      exact ih (i + 1) _ F H1 hF
    · rw [dif_neg c] at hF
      refine Ev.no (by rw [List.length_map]; omega) (Ev.ret ?_)
      rw [Option.some.inj hF]
/-- The program's map of depths. -/
theorem depths_ev {n : Nat} (h : 2 ≤ n) (h6 : n ≤ 6) {m : Nat} {F : List (List Int × Int)} (hF : fbfs (levelsP n) m 0 [(ident n, 0)] = some F) : Ev (fun k => impl_depths.f k (n : Int)) (mapOf F) := by
  unfold impl_depths.f
  refine Ev.bind (allLevels_ev h h6) (Ev.bind (identity_ev n (by omega)) (Ev.bind (key_evP (ident_isP n) h6) (Ev.yes (keyP_small (ident_isP n) h6) ?_)))
  have := depths_l0 h h6 (levelsP n) (levelsP_ok h h6) (by have := levelsP_len (n := n) h6; omega) m 0 [(ident n, 0)] F ⟨by simp, by simp [ident_isP], by simp⟩ hF
  simpa [mapOf] using this
end Go.Proofs.Ytlmlamkbedfmhaa.P
end
section
set_option linter.unusedVariables false
set_option linter.unusedSimpArgs false
namespace Go.Proofs.Ytlmlamkbedfmhaa.P
open Go.RowKit Go.Proofs.YtlmlamkbedfmhaaW.PrintWords Go.Proofs.YtlmlamkbedfmhaaW.PrintLast Go.Proofs.YtlmlamkbedfmhaaW.PrintMore

theorem index_loop (x : Int) (l : List Int) (hb : l.length ≤ 9223372036854775807) : ∀ d i : Nat, i + d = l.length → ∃ r, Ev (fun k => slices_Index_int_int.l0 k l x (l.length : Int) (i : Int)) r ∧ decide (r ≥ 0) = decide (x ∈ l.drop i) := by
  intro d
  induction d with
  | zero =>
    intro i hi
    refine ⟨-1, Ev.step (fun k => by rw [slices_Index_int_int.l0]) (Ev.no (by omega) (Ev.ret rfl)), ?_⟩
    rw [List.drop_eq_nil_of_le (by omega)]; simp
  | succ d ih =>
    intro i hi
    have hlt : i < l.length := by omega
    by_cases g : x = l[i]
    · refine ⟨(i : Int), Ev.step (fun k => by rw [slices_Index_int_int.l0]) (Ev.yes (by omega) (Ev.yes (by omega) (Ev.yes (by omega) (Ev.yes (by rw [rd_nat hlt]; exact g) (Ev.ret rfl))))), ?_⟩
      rw [List.drop_eq_getElem_cons hlt, decide_eq_decide]
      constructor
      · intro _; rw [← g]; simp
      · intro _; omega
    · obtain ⟨r, h1, h2⟩ := ih (i + 1) (by omega)
      refine ⟨r, Ev.step (fun k => by rw [slices_Index_int_int.l0]) (Ev.yes (by omega) (Ev.yes (by omega) (Ev.yes (by omega) (Ev.no (by rw [rd_nat hlt]; exact g) (by rw [w64i hlt hb]; exact h1))))), ?_⟩
      rw [h2, List.drop_eq_getElem_cons hlt, decide_eq_decide, List.mem_cons]
      constructor
      · exact fun h => .inr h
      · rintro (h | h)
        · exact absurd h g
        · exact h
theorem contains_ev (x : Int) (l : List Int) (hb : l.length ≤ 9223372036854775807) : Ev (fun k => slices_Contains_int_int.f k l x) (decide (x ∈ l)) := by
  obtain ⟨r, h1, h2⟩ := index_loop x l hb l.length 0 (by omega)
  unfold slices_Contains_int_int.f
  refine Ev.bind (a := r) (by unfold slices_Index_int_int.f; simpa using h1) (Ev.ret ?_)
  rw [h2, List.drop_zero]
def okFrom (l : List Int) : Nat → Nat → Bool
  | 0, _ => true
  | d + 1, i => decide (0 ≤ l.getD i 0 ∧ l.getD i 0 ≤ (l.length : Int) - 1) && (!decide (l.getD i 0 ∈ l.take i) && okFrom l d (i + 1))
theorem isOrder_loop (l : List Int) (hb : l.length ≤ 8) : ∀ d i : Nat, i + d = l.length → Ev (fun k => impl_isOrder.l0 k l l (l.length : Int) (i : Int)) (okFrom l d i) := by
  intro d
  induction d with
  | zero =>
    intro i hi
    refine Ev.step (fun k => by rw [impl_isOrder.l0]) ?_
    exact Ev.no (by omega) (Ev.ret rfl)
  | succ d ih =>
    intro i hi
    have hlt : i < l.length := by omega
    have ew : wrap64 ((l.length : Int) - 1) = (l.length : Int) - 1 := w64 (by omega) (by omega)
    have eg : rd l (i : Int) = l.getD i 0 := rd_nat'
    refine Ev.step (fun k => by rw [impl_isOrder.l0]) ?_
    rw [w64i hlt (by omega), ew, eg, Int.toNat_natCast]
    refine Ev.yes (by omega) (Ev.yes (by omega) (Ev.yes (by omega) (Ev.known (impl_between_eq _ _ _) ?_)))
    unfold okFrom
    cases h1 : decide (0 ≤ l.getD i 0 ∧ l.getD i 0 ≤ (l.length : Int) - 1)
    · exact Ev.no (by simp) (Ev.ret rfl)
    · refine Ev.yes rfl (Ev.yes (by omega) (Ev.bind (contains_ev _ _ (by simp; omega)) ?_))
      cases h2 : decide (l.getD i 0 ∈ l.take i)
      · exact Ev.no (by simp) (Ev.eq (ih (i + 1) (by omega)) rfl)
      · exact Ev.yes rfl (Ev.ret rfl)
theorem laOrder_loop (l : List Int) (hb : l.length ≤ 8) : ∀ d i : Nat, i + d = l.length → Ev (fun k => spec_laOrder.l0 k l l (l.length : Int) (i : Int)) (okFrom l d i) := by
  intro d
  induction d with
  | zero =>
    intro i hi
    refine Ev.step (fun k => by rw [spec_laOrder.l0]) ?_
    exact Ev.no (by omega) (Ev.ret rfl)
  | succ d ih =>
    intro i hi
    have hlt : i < l.length := by omega
    have ew : wrap64 ((l.length : Int) - 1) = (l.length : Int) - 1 := w64 (by omega) (by omega)
    have eg : rd l (i : Int) = l.getD i 0 := rd_nat'
    refine Ev.step (fun k => by rw [spec_laOrder.l0]) ?_
    rw [w64i hlt (by omega), ew, eg, Int.toNat_natCast]
    refine Ev.yes (by omega) (Ev.yes (by omega) (Ev.yes (by omega) (Ev.known (spec_l1In_eq _ _ _) ?_)))
    unfold okFrom
    cases h1 : decide (0 ≤ l.getD i 0 ∧ l.getD i 0 ≤ (l.length : Int) - 1)
    · exact Ev.no (by simp) (Ev.ret rfl)
    · refine Ev.yes rfl (Ev.yes (by omega) (Ev.bind (l1Has_ev _ _ (by simp; omega)) ?_))
      cases h2 : decide (l.getD i 0 ∈ l.take i)
      · exact Ev.no (by simp) (Ev.eq (ih (i + 1) (by omega)) rfl)
      · exact Ev.yes rfl (Ev.ret rfl)
def orderB (l : List Int) : Bool := if 1 ≤ l.length ∧ l.length ≤ 8 then okFrom l l.length 0 else false
theorem isOrder_ev (l : List Int) : Ev (fun k => impl_isOrder.f k l) (orderB l) := by
  unfold impl_isOrder.f orderB
  refine Ev.known (impl_between_eq _ _ _) ?_
  by_cases h : 1 ≤ l.length ∧ l.length ≤ 8
  · rw [if_pos h]
    exact Ev.yes (by rw [decide_eq_true_iff]; omega) (isOrder_loop l h.2 l.length 0 (by omega))
  · rw [if_neg h]
    exact Ev.no (by rw [decide_eq_true_iff]; omega) (Ev.ret rfl)
theorem laOrder_ev (l : List Int) : Ev (fun k => spec_laOrder.f k l) (orderB l) := by
  unfold spec_laOrder.f orderB
  refine Ev.known (spec_l1In_eq _ _ _) ?_
  by_cases h : 1 ≤ l.length ∧ l.length ≤ 8
  · rw [if_pos h]
    exact Ev.yes (by rw [decide_eq_true_iff]; omega) (laOrder_loop l h.2 l.length 0 (by omega))
  · rw [if_neg h]
    exact Ev.no (by rw [decide_eq_true_iff]; omega) (Ev.ret rfl)
def madeB (l : List Int) : Bool := if orderB l = true then decide (2 ≤ (l.length : Int) ∧ (l.length : Int) ≤ 6) else false
theorem isMade_ev (l : List Int) : Ev (fun k => impl_isMade.f k l) (madeB l) := by
  unfold impl_isMade.f madeB
  refine Ev.bind (isOrder_ev l) ?_
  by_cases h : orderB l = true
  · simp only [if_pos h]; exact (Ev.known (impl_between_eq _ _ _) (Ev.ret rfl))
  · simp only [if_neg h]; exact Ev.ret rfl
theorem lvMade_ev (l : List Int) : Ev (fun k => spec_lvMade.f k l) (madeB l) := by
  unfold spec_lvMade.f madeB
  refine Ev.bind (laOrder_ev l) ?_
  by_cases h : orderB l = true
  · simp only [if_pos h]; exact (Ev.known (spec_l1In_eq _ _ _) (Ev.ret rfl))
  · simp only [if_neg h]; exact Ev.ret rfl
theorem okFrom_all (l : List Int) : ∀ d i : Nat, i + d = l.length → okFrom l d i = true → ∀ j (hj : j < l.length), i ≤ j → (0 ≤ l[j] ∧ l[j] ≤ (l.length : Int) - 1) ∧ l[j] ∉ l.take j := by
  intro d
  induction d with
  | zero => intro i hi _ j hj hij; omega
  | succ d ih =>
    intro i hi h j hj hij
    simp only [okFrom, Bool.and_eq_true, Bool.not_eq_true', decide_eq_true_iff, decide_eq_false_iff_not] at h
    rcases Nat.eq_or_lt_of_le hij with g | g
    · subst g
      have e : l.getD i 0 = l[i] := by simp [hj]
      rw [e] at h
      exact ⟨h.1, h.2.1⟩
    · exact ih (i + 1) (by omega) h.2.2 j hj (by omega)
theorem orderB_isP {l : List Int} (h : orderB l = true) : isP l.length l := by
  unfold orderB at h
  by_cases c : 1 ≤ l.length ∧ l.length ≤ 8
  · rw [if_pos c] at h
    have H := okFrom_all l l.length 0 (by omega) h
    refine isP_of rfl ?_ ?_
    · rw [List.Nodup, List.pairwise_iff_getElem]
      intro i j hi hj hij e
      refine (H j hj (by omega)).2 ?_
      rw [← e, List.mem_take_iff_getElem]
      exact ⟨i, by omega, rfl⟩
    · intro v hv
      obtain ⟨j, hj, rfl⟩ := List.getElem_of_mem hv
      have := (H j hj (by omega)).1
      omega
  · rw [if_neg c] at h; exact absurd h (by simp)
theorem madeB_isP {l : List Int} (h : madeB l = true) : isP l.length l ∧ 2 ≤ l.length ∧ l.length ≤ 6 := by
  unfold madeB at h
  by_cases c : orderB l = true
  · rw [if_pos c, decide_eq_true_iff] at h
    exact ⟨orderB_isP c, by omega, by omega⟩
  · rw [if_neg c] at h; exact absurd h (by simp)
theorem leastDepth_ev (l : List Int) : ∃ r, Ev (fun k => spec_LeastDepth.f k l) r ∧ Ev (fun k => impl_LeastDepth.f k l) r := by
  cases hm : madeB l
  · refine ⟨(0, false), ?_, ?_⟩
    · unfold spec_LeastDepth.f
      exact Ev.bind (lvMade_ev l) (Ev.no (by simp [hm]) (Ev.ret rfl))
    · unfold impl_LeastDepth.f
      exact Ev.bind (isMade_ev l) (Ev.no (by simp [hm]) (Ev.ret rfl))
  · obtain ⟨hp, h2, h6⟩ := madeB_isP hm
    obtain ⟨m, F, hF, D⟩ := search (levelsP l.length) h2 h6
    have hmem := all_met (levelsP_one h2) D (inv l) l rfl hp
    obtain ⟨e, he, el⟩ := List.mem_map.1 hmem
    have hr := ords_rank h2 h6 hp
    obtain ⟨hrk, _⟩ := hr
    have hd : depOf F l = e.2 := by rw [← el]; exact depOf_mem D.nd he
    have hg : mget (mapOf F) (keyP l) = e.2 := by rw [← el]; exact mapOf_get D.toFInv h6 he
    refine ⟨(e.2, true), ?_, ?_⟩
    · unfold spec_LeastDepth.f
      refine Ev.bind (lvMade_ev l) (Ev.yes hm (Ev.bind (lvFar_ev h2 h6 hF) (Ev.bind (alRank_ev hp h6) (Ev.yes (by omega) (Ev.yes (by rw [farOf_len]; omega) (Ev.ret ?_))))))
      rw [farOf_at h2 h6 F hp, hd]
    · unfold impl_LeastDepth.f
      refine Ev.bind (isMade_ev l) (Ev.yes hm (Ev.bind (depths_ev h2 h6 hF) (Ev.bind (key_evP hp h6) (Ev.yes (keyP_small hp h6) (Ev.ret ?_)))))
      rw [hg]
theorem leastDepthPure : laws_FnExactLeastDepth.Pure := by
  intro l _ _ _
  refine Ev.rounds (g := fun k => laws_FnExactLeastDepth.f k l) ?_
  unfold laws_FnExactLeastDepth.f
  by_cases c : (l.length : Int) > 1048576
  · exact Ev.yes c (Ev.ret rfl)
  · refine Ev.no c ?_
    obtain ⟨r, h1, h2⟩ := leastDepth_ev l
    refine Ev.bind (toIntS_ev l (by omega)) (Ev.bind h1 (Ev.bind (toIntS_ev l (by omega)) (Ev.bind h2 (Ev.yes rfl ?_))))
    refine Ev.step (fun k => by rw [laws_FnExactLeastDepth.j0]) ?_
    refine Ev.no (by simp) (Ev.bind (toIntS_ev l (by omega)) (Ev.bind (eqIntS_ev l l (by omega)) (Ev.yes (by simp) (Ev.ret rfl))))
end Go.Proofs.Ytlmlamkbedfmhaa.P
end
section
namespace Go.Proofs.Ytlmlamkbedfmhaa.Pure
theorem FnExactLeastDepth : Go.Proofs.Ytlmlamkbedfmhaa.P.laws_FnExactLeastDepth.Pure := Go.Proofs.Ytlmlamkbedfmhaa.P.leastDepthPure
end Go.Proofs.Ytlmlamkbedfmhaa.Pure
end
