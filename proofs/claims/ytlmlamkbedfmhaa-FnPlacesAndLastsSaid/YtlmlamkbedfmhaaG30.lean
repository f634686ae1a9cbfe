-- Put together by wip/merge.py (a program of this session's) out of this claim's texts; Lean checks it.
import Derived.Test.YtlmlamkbedfmhaaG22
import Derived.Test.YtlmlamkbedfmhaaG23
import Derived.Outline
section
namespace Go.Proofs.Ytlmlamkbedfmhaa.P
open Go.RowKit Go.Proofs.YtlmlamkbedfmhaaW.PrintWords Go.Proofs.YtlmlamkbedfmhaaW.PrintLast Go.Proofs.YtlmlamkbedfmhaaW.PrintMore
attribute [local go_sem] max2_int min2_int max_two min_two max_three min_three max_four min_four   -- for this text's walks alone
set_option linter.unusedVariables false
set_option linter.unusedSimpArgs false

/-! ### slices_Insert_int_int: function 143 -/
def slices_Insert_int_int.f (l0 : List Int) (a1 : Int) (l2 : List Int) : Option (List Int) := if a1 = (l0.length : Int) then (if l2.length = 1 then (if l0.length < 17592186044415 then some (l0 ++ l2) else none) else none) else none
set_option maxHeartbeats 8000000 in
set_option maxRecDepth 100000 in
theorem slices_Insert_int_int.calls (P0_ : Nat → Prop) (u9000_ : Value) (l0 : List Int) (a1 : Int) (A2 : Option Addr) (c2 : Nat) (l2 : List Int) (r : List Int) (w0 w : World) (hB : Below w0.heap.size w0 w) (ho0 : Kd.R (Kd.int .i64) 3 w w0.heap.size P0_ u9000_ l0) (hr2 : ∀ W_, Kept w W_ (fun k_ => P0_ k_) → Kd.C (Kd.int .i64) W_ A2 l2.length l2) (hc2 : l2.length ≤ c2) (h : slices_Insert_int_int.f l0 a1 l2 = some r) :
    Calls Try.prog 143 #[u9000_, .int .i64 a1, .slice A2 l2.length c2] w fun e w' => ∃ v0_ : Value, e = .returned (v0_) ∧ Kd.R (Kd.int .i64) 3 w' w0.heap.size (fun k_ => (P0_ k_ ∨ w.heap.size ≤ k_)) v0_ r ∧ Below w0.heap.size w0 w' ∧ Kept w w' (fun k_ => P0_ k_) := by
  unfold slices_Insert_int_int.f at h
  by_cases c1 : a1 = (l0.length : Int)
  · rw [if_pos c1] at h
    by_cases c2' : l2.length = 1
    · rw [if_pos c2'] at h
      by_cases c3 : l0.length < 17592186044415
      · rw [if_pos c3] at h
        obtain rfl := Option.some.inj h
        clear h
        subst c1
        obtain ⟨A0, c0, eo⟩ := Kd.R_slice ho0
        subst eo
        have hle : l0.length ≤ c0 := (Kd.R_reads' ho0).2.1
        have HO := Aside0.mk ho0
        have HR := Aside0.mk (hr2 w (Kept.refl _ _))
        have HB := Aside0.mk hB
        have HL := Aside0.mk c2'
        have HN := Aside0.mk c3
        have HW := Aside0.mk hB.size
        have hmine := fun (k : Nat) (e : (Value.slice A0 l0.length c0).ownBlock = some k) => ho0.1 k e
        have HM := Aside0.mk hmine
        have e0 : ((l2.length : Int) == 0) = false := by rw [c2']; rfl
        have e1 : ((l0.length : Int) == (l0.length : Int)) = true := by simp
        have hn0 : A0 = none → l0.length = 0 ∧ c0 = 0 := by
          rintro rfl
          obtain ⟨_, inner, ho, _⟩ := ho0
          rcases ho.2 with ⟨hv, _⟩ | ⟨g, cap, cur, hv, _⟩
          · injection hv with _ h2 h3; exact ⟨h2, h3⟩
          · injection hv with h2; cases h2
        clear hr2 hB c2' c3 hc2 ho0 hmine
        have fin : ∀ v1 w1, Kd.R (Kd.int .i64) 3 w1 w0.heap.size (fun k_ => (P0_ k_ ∨ w.heap.size ≤ k_)) v1 (l0 ++ l2) → Below w0.heap.size w0 w1 → w.grownBy w1 (Value.slice A0 l0.length c0).ownBlock → Kept w w1 (fun k_ => P0_ k_) := fun v1 w1 _ _ hg => Kept.of_grown hg (Kept.refl _ _) (fun k e => .inl (HM.out k e))
        have HF := Aside0.mk fin
        clear fin
        rcases A0 with _ | ad
        · obtain ⟨hz1, hz2⟩ := hn0 rfl
          have hz : l0 = [] := List.eq_nil_of_length_eq_zero hz1
          subst hz
          subst hz2
          clear hn0 hz1 hle
          go_enter Try.func143, Try.ntmps143
          go_wp2_with (first | ((with_reducible refine gate_builtin (b := .append) (xs := #[.tmp 23, .tmp 24]) rfl ?_); at_builtin; refine Kd.R_append_rows (Kd.int .i64) (w0 := w0) w0.heap.size rfl (.tmp 23) (.tmp 24) 22 3 (.int .i64 0) 8 rfl Try.underlying22 info3 rfl (by decide) (by omega) (.slice none 0 0) [] l2 _ _ _ (fun k_ => (P0_ k_ ∨ w.heap.size ≤ k_)) (fun _ => False) rfl rfl ?aO ?aR (fun _ _ h => h) (fun _ h => h.elim) ?aF ?aB ?aS ?aL ?_; (case aR => exact HR.out); (case aB => exact HB.out); (case aF => exact (fun _ hk => .inr hk)); (case aO => exact Kd.R_mono HO.out (fun _ hk => .inl hk)); (case aS => exact HW.out); (case aL => have := HL.out; have := HN.out; (try simp only [List.length_nil]); omega); intro v1 w1 ho hb hg _; have HO1 := Aside0.mk ho; have HB1 := Aside0.mk hb; have HK1 := Aside0.mk (HF.out v1 w1 ho hb hg); clear ho hb hg))
          go_ret
          exact ⟨_, rfl, HO1.out, HB1.out, HK1.out⟩
        · clear hn0
          by_cases hcap : c0 = l0.length
          · subst hcap
            go_enter Try.func143, Try.ntmps143
            go_wp2_with (first | ((with_reducible refine gate_builtin (b := .append) (xs := #[.tmp 23, .tmp 24]) rfl ?_); at_builtin; refine Kd.R_append_rows (Kd.int .i64) (w0 := w0) w0.heap.size rfl (.tmp 23) (.tmp 24) 22 3 (.int .i64 0) 8 rfl Try.underlying22 info3 rfl (by decide) (by omega) (.slice (some ad) l0.length l0.length) l0 l2 _ _ _ (fun k_ => (P0_ k_ ∨ w.heap.size ≤ k_)) (fun _ => False) rfl rfl ?aO ?aR (fun _ _ h => h) (fun _ h => h.elim) ?aF ?aB ?aS ?aL ?_; (case aR => exact HR.out); (case aB => exact HB.out); (case aF => exact (fun _ hk => .inr hk)); (case aO => exact Kd.R_mono HO.out (fun _ hk => .inl hk)); (case aS => exact HW.out); (case aL => have := HL.out; have := HN.out; (try simp only [List.length_nil]); omega); intro v1 w1 ho hb hg _; have HO1 := Aside0.mk ho; have HB1 := Aside0.mk hb; have HK1 := Aside0.mk (HF.out v1 w1 ho hb hg); clear ho hb hg))
            go_ret
            exact ⟨_, rfl, HO1.out, HB1.out, HK1.out⟩
          · have hlt : l0.length < c0 := by omega
            go_enter Try.func143, Try.ntmps143
            go_wp2_with (first | ((with_reducible refine gate_builtin (b := .append) (xs := #[.tmp 23, .tmp 24]) rfl ?_); at_builtin; refine Kd.R_append_rows (Kd.int .i64) (w0 := w0) w0.heap.size rfl (.tmp 23) (.tmp 24) 22 3 (.int .i64 0) 8 rfl Try.underlying22 info3 rfl (by decide) (by omega) (.slice (some ad) l0.length c0) l0 l2 _ _ _ (fun k_ => (P0_ k_ ∨ w.heap.size ≤ k_)) (fun _ => False) rfl rfl ?aO ?aR (fun _ _ h => h) (fun _ h => h.elim) ?aF ?aB ?aS ?aL ?_; (case aR => exact HR.out); (case aB => exact HB.out); (case aF => exact (fun _ hk => .inr hk)); (case aO => exact Kd.R_mono HO.out (fun _ hk => .inl hk)); (case aS => exact HW.out); (case aL => have := HL.out; have := HN.out; (try simp only [List.length_nil]); omega); intro v1 w1 ho hb hg _; have HO1 := Aside0.mk ho; have HB1 := Aside0.mk hb; have HK1 := Aside0.mk (HF.out v1 w1 ho hb hg); clear ho hb hg))
            go_ret
            exact ⟨_, rfl, HO1.out, HB1.out, HK1.out⟩
      · rw [if_neg c3] at h; exact absurd h (by simp)
    · rw [if_neg c2'] at h; exact absurd h (by simp)
  · rw [if_neg c1] at h; exact absurd h (by simp)

end Go.Proofs.Ytlmlamkbedfmhaa.P
end
