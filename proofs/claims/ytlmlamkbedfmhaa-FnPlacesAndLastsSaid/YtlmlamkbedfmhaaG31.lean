-- Put together by wip/merge.py (a program of this session's) out of this claim's texts; Lean checks it.
import Derived.Test.YtlmlamkbedfmhaaG28
import Derived.Laws.MathBits
import Derived.Test.YtlmlamkbedfmhaaG26
section
set_option linter.unusedVariables false
set_option linter.unusedSimpArgs false
namespace Go.Proofs.Ytlmlamkbedfmhaa.P
open Go Go.RowKit Go.Proofs.YtlmlamkbedfmhaaW.PrintWords Go.Proofs.YtlmlamkbedfmhaaW.PrintLast Go.Proofs.YtlmlamkbedfmhaaW.PrintMore

theorem wrapU (x : Int) : IntKind.u64.wrap x = x % 18446744073709551616 := by
  simp [IntKind.wrap, IntKind.signed, IntKind.bits]
theorem and255 (z : Int) (h0 : 0 ≤ z) (h1 : z < 18446744073709551616) : Go.bits .and .u64 z 255 = z % 256 := by go_bits2
/-- The bytes that came in. -/
def bytesOk (l : List Int) : Prop := (∀ x ∈ l, (Lit.int .u8 x).wf = true) ∧ l.length ≤ 1048576
theorem bytes_at {l : List Int} (h : bytesOk l) {i : Int} (h0 : 0 ≤ i) (h1 : i < l.length) : 0 ≤ rd l i ∧ rd l i ≤ 255 := by
  obtain ⟨j, rfl⟩ := Int.eq_ofNat_of_zero_le h0
  have hj : j < l.length := by omega
  rw [rd_nat hj]
  have := h.1 l[j] (List.getElem_mem hj)
  simp [Lit.wf, IntKind.min, IntKind.max, IntKind.signed, IntKind.bits] at this
  omega
/-- A place in the bytes, no further than b. -/
def at_ (b : Nat) (s : Int) : Prop := 0 ≤ s ∧ s ≤ b ∧ b ≤ 1000000000
theorem next_ok {l : List Int} (h : bytesOk l) {b : Nat} {s : Int} (hs : at_ b s) (hb : b + 1 ≤ 1000000000) (t : Int) :
    ∃ v s' t', spec_l1Cur_next.f l s t = some (v, s', t') ∧ 0 ≤ v ∧ v ≤ 255 ∧ at_ (b + 1) s' := by
  have hs1 : 0 ≤ s := hs.1
  have hs2 : s ≤ b := hs.2.1
  have hl := h.2
  have cut : ∀ z : Int, 0 ≤ wrap64 (Go.bits .and .u64 (IntKind.u64.wrap z / 1099511627776) 255) ∧ wrap64 (Go.bits .and .u64 (IntKind.u64.wrap z / 1099511627776) 255) ≤ 255 := by
    intro z
    rw [wrapU, and255 _ (by omega) (by omega), w64 (by omega) (by omega)]; omega
  have ok : at_ (b + 1) (wrap64 (s + 1)) := by rw [w64 (by omega) (by omega)]; exact ⟨by omega, by omega, hb⟩
  unfold spec_l1Cur_next.f
  by_cases c : s < (l.length : Int)
  · rw [if_pos c, if_pos hs1]
    have e := bytes_at h hs1 c
    by_cases d : wrap64 (s + 1) ≤ (l.length : Int)
    · rw [if_pos d]; exact ⟨_, _, _, rfl, by rw [w64 (by omega) (by omega)]; omega, by rw [w64 (by omega) (by omega)]; omega, ok⟩
    · rw [if_neg d]; exact ⟨_, _, _, rfl, (cut _).1, (cut _).2, ok⟩
  · rw [if_neg c]
    by_cases d : wrap64 (s + 1) ≤ (l.length : Int)
    · rw [if_pos d]; exact ⟨_, _, _, rfl, by omega, by omega, ok⟩
    · rw [if_neg d]; exact ⟨_, _, _, rfl, (cut _).1, (cut _).2, ok⟩
theorem at_mono {b c : Nat} {s : Int} (h : at_ b s) (h1 : b ≤ c) (h2 : c ≤ 1000000000) : at_ c s := ⟨h.1, by have := h.2.1; omega, h2⟩
theorem pick_ok {l : List Int} (h : bytesOk l) {b : Nat} {s : Int} (hs : at_ b s) (hb : b + 2 ≤ 1000000000) (t n : Int) :
    ∃ v s' t', spec_l1Cur_pick.f l s t n = some (v, s', t') ∧ 0 ≤ v ∧ (1 ≤ n → v < n) ∧ at_ (b + 2) s' := by
  unfold spec_l1Cur_pick.f
  by_cases c : n ≤ 1
  · rw [if_pos c]; exact ⟨_, _, _, rfl, by omega, by omega, at_mono hs (by omega) hb⟩
  · rw [if_neg c]
    obtain ⟨v, s1, t1, e1, v0, v1, a1⟩ := next_ok h hs (by omega) t
    rw [e1, Option.bind_some]
    have tm : ∀ z : Int, 0 ≤ z → 0 ≤ z.tmod n ∧ (1 ≤ n → z.tmod n < n) := by
      intro z hz
      rw [Int.tmod_eq_emod_of_nonneg hz]
      have h1 := Int.emod_nonneg z (show n ≠ 0 by omega)
      have h2 := Int.emod_lt_of_pos z (show 0 < n by omega)
      omega
    by_cases d : n > 200
    · rw [if_pos d]
      obtain ⟨w, s2, t2, e2, w0, w1, a2⟩ := next_ok h a1 (by omega) t1
      simp only [e2, Option.bind_some]
      rw [if_neg (by omega)]
      have e3 : wrap64 (wrap64 (v * 256) + w) = v * 256 + w := by
        rw [w64 (x := v * 256) (by omega) (by omega), w64 (by omega) (by omega)]
      rw [e3]
      exact ⟨_, _, _, rfl, (tm _ (by omega)).1, (tm _ (by omega)).2, a2⟩
    · rw [if_neg d, if_neg (by omega)]
      exact ⟨_, _, _, rfl, (tm _ v0).1, (tm _ v0).2, at_mono a1 (by omega) hb⟩
theorem among_ok {l : List Int} (h : bytesOk l) {b : Nat} {s : Int} (hs : at_ b s) (hb : b + 2 ≤ 1000000000) (t : Int) (q : List Int) (hq : 0 < q.length) :
    ∃ v s' t', spec_l1Cur_among.f l s t q = some (v, s', t') ∧ v ∈ q ∧ at_ (b + 2) s' := by
  unfold spec_l1Cur_among.f
  obtain ⟨v, s1, t1, e1, v0, v1, a1⟩ := pick_ok h hs hb t (q.length : Int)
  have v1 := v1 (by omega)
  rw [e1, Option.bind_some, if_pos v0, if_pos v1]
  refine ⟨_, _, _, rfl, ?_, a1⟩
  obtain ⟨j, rfl⟩ := Int.eq_ofNat_of_zero_le v0
  rw [rd_nat (by omega : j < q.length)]; exact List.getElem_mem _
theorem one_ok {l : List Int} (h : bytesOk l) {b : Nat} {s : Int} (hs : at_ b s) (hb : b + 2 ≤ 1000000000) (t n : Int) :
    ∃ v s' t', spec_l1Cur_one.f l s t n = some (v, s', t') ∧ at_ (b + 2) s' := by
  unfold spec_l1Cur_one.f
  obtain ⟨v, s1, t1, e1, v0, v1, a1⟩ := pick_ok h hs hb t n
  rw [e1, Option.bind_some]
  exact ⟨_, _, _, rfl, a1⟩
theorem sureLadder_loop {l : List Int} (h : bytesOk l) (w : Int) (hw : 2 ≤ w) (hw8 : w ≤ 8) : ∀ (d b : Nat) (s t : Int) (acc : List Int), at_ b s → b + 2 * d ≤ 1000000000 → acc.length + d ≤ 1000 →
    (∀ r ∈ acc, 0 ≤ r ∧ r ≤ w - 2) →
    ∃ q s' t', Ev (fun k => spec_l1Cur_sureLadder.l0 k (d : Int) l s t w acc) (w, q, s', t') ∧ q.length = acc.length + d ∧ (∀ r ∈ q, 0 ≤ r ∧ r ≤ w - 2) ∧ at_ (b + 2 * d) s' := by
  intro d
  induction d with
  | zero =>
    intro b s t acc hs hb ha hr
    exact ⟨acc, s, t, Ev.step (fun k => by rw [spec_l1Cur_sureLadder.l0]) (Ev.no (by omega) (Ev.ret rfl)), by omega, hr, hs⟩
  | succ d ih =>
    intro b s t acc hs hb ha hr
    obtain ⟨v, s1, t1, e1, v0, v1, a1⟩ := pick_ok h hs (by omega) t (w - 1)
    have v1 := v1 (by omega)
    obtain ⟨q, s', t', hq, hl, hr', a2⟩ := ih (b + 2) s1 t1 (acc ++ [v]) a1 (by omega) (by simp; omega) (by
      intro r hr2
      rw [List.mem_append, List.mem_singleton] at hr2
      rcases hr2 with hr2 | rfl
      · exact hr r hr2
      · omega)
    refine ⟨q, s', t', Ev.step (fun k => by rw [spec_l1Cur_sureLadder.l0]) (Ev.yes (by omega) ?_), by simp at hl; omega, hr', at_mono a2 (by omega) (by omega)⟩
    rw [w64 (x := w - 1) (by omega) (by omega)]
    refine Ev.known e1 (Ev.yes (by omega) ?_)
    rw [w64 (by omega) (by omega)]
    have e : ((d + 1 : Nat) : Int) - 1 = (d : Nat) := by omega
    rw [e]; exact hq
theorem sureLadder_ok {l : List Int} (h : bytesOk l) {b : Nat} {s : Int} (hs : at_ b s) (t : Int) (n m : Nat) (hn : 2 ≤ n) (hn8 : n ≤ 8) (hm : m ≤ 100) (hb : b + 4 + 2 * m ≤ 1000000000) :
    ∃ w q s' t', Ev (fun k => spec_l1Cur_sureLadder.f k l s t (n : Int) (m : Int)) (w, q, s', t') ∧ 2 ≤ w ∧ w ≤ n ∧ q.length ≤ m ∧ (∀ r ∈ q, 0 ≤ r ∧ r ≤ w - 2) ∧ at_ (b + 4 + 2 * m) s' := by
  obtain ⟨v, s1, t1, e1, v0, v1, a1⟩ := pick_ok h hs (by omega) t ((n : Int) - 1)
  obtain ⟨u, s2, t2, e2, u0, u1, a2⟩ := pick_ok h a1 (by omega) t1 ((m : Int) + 1)
  have v1 := v1 (by omega)
  have u1 := u1 (by omega)
  obtain ⟨d, rfl⟩ := Int.eq_ofNat_of_zero_le u0
  obtain ⟨q, s', t', hq, hl, hr, a3⟩ := sureLadder_loop h (2 + v) (by omega) (by omega) d (b + 4) s2 t2 [] a2 (by omega) (by simp; omega) (by simp)
  refine ⟨2 + v, q, s', t', ?_, by omega, by omega, by simp at hl; omega, hr, at_mono a3 (by omega) hb⟩
  unfold spec_l1Cur_sureLadder.f
  rw [w64 (x := (n : Int) - 1) (by omega) (by omega), w64 (x := (m : Int) + 1) (by omega) (by omega)]
  refine Ev.known e1 (Ev.known e2 ?_)
  rw [w64 (by omega) (by omega)]; exact hq
theorem ladder_ok {l : List Int} (h : bytesOk l) {b : Nat} {s : Int} (hs : at_ b s) (t : Int) (hb : b + 100 ≤ 1000000000) :
    ∃ w q s' t', Ev (fun k => spec_l1Cur_ladder.f k l s t) (w, q, s', t') ∧ q.length ≤ 61 ∧ at_ (b + 100) s' := by
  obtain ⟨w, q, s1, t1, e1, hw, hw6, hq, hr, a1⟩ := sureLadder_ok h hs t 6 12 (by omega) (by omega) (by omega) (by omega)
  obtain ⟨v, s2, t2, e2, v0, v1, a2⟩ := pick_ok h a1 (by omega) t1 16
  unfold spec_l1Cur_ladder.f
  by_cases c0 : v = 0
  · obtain ⟨u, s3, t3, e3, u0, a3⟩ := among_ok h a2 (by omega) t2 [(-1), wrap64 (w - 1), 4611686018427387904] (by simp)
    exact ⟨w, q ++ [u], s3, t3, Ev.bind e1 (Ev.known e2 (Ev.yes c0 (Ev.known e3 (Ev.yes (show q.length < 17592186044416 by omega) (Ev.ret rfl))))), by simp; omega, at_mono a3 (by omega) hb⟩
  · by_cases c1 : v = 1
    · obtain ⟨u, s3, t3, e3, u0, a3⟩ := among_ok h a2 (by omega) t2 [1, 2, 8, 9, (-1)] (by simp)
      exact ⟨u, q, s3, t3, Ev.bind e1 (Ev.known e2 (Ev.no c0 (Ev.yes c1 (Ev.known e3 (Ev.ret rfl))))), by omega, at_mono a3 (by omega) hb⟩
    · by_cases c2 : v = 2
      · obtain ⟨u, s3, t3, e3, u0, u1, a3⟩ := pick_ok h a2 (by omega) t2 2
        have u1 := u1 (by omega)
        have e : wrap64 (60 + u) = 60 + u := w64 (by omega) (by omega)
        refine ⟨w, List.replicate (60 + u).toNat 0, s3, t3, Ev.bind e1 (Ev.known e2 (Ev.no c0 (Ev.no c1 (Ev.yes c2 (Ev.known e3 ?_))))), by simp; omega, at_mono a3 (by omega) hb⟩
        rw [e]
        exact Ev.yes (by omega) (Ev.yes (by omega) (Ev.ret rfl))
      · exact ⟨w, q, s2, t2, Ev.bind e1 (Ev.known e2 (Ev.no c0 (Ev.no c1 (Ev.no c2 (Ev.ret rfl))))), by omega, at_mono a2 (by omega) hb⟩
/-! ### orders, and ladders out of them -/
theorem sureOrder_loop {l : List Int} (h : bytesOk l) (n : Nat) (hn : n ≤ 100) : ∀ d i : Nat, i + d = n → ∀ (b : Nat) (s t : Int) (p : List Int), at_ b s → b + 2 * d ≤ 1000000000 → p.length = i →
    ∃ q s' t', Ev (fun k => spec_l1Cur_sureOrder.l0 k (n : Int) p (i : Int) l s t) (q, s', t') ∧ q.length = n ∧ at_ (b + 2 * d) s' := by
  intro d
  induction d with
  | zero =>
    intro i hi b s t p hs hb hp
    exact ⟨p, s, t, Ev.step (fun k => by rw [spec_l1Cur_sureOrder.l0]) (Ev.no (by omega) (Ev.ret rfl)), by omega, hs⟩
  | succ d ih =>
    intro i hi b s t p hs hb hp
    obtain ⟨v, s1, t1, e1, v0, v1, a1⟩ := pick_ok h hs (by omega) t ((p.length : Int) + 1)
    have v1 := v1 (by omega)
    obtain ⟨j, rfl⟩ := Int.eq_ofNat_of_zero_le v0
    obtain ⟨q, s', t', hq, hl, a2⟩ := ih (i + 1) (by omega) (b + 2) s1 t1 (p.take j ++ [(i : Int)] ++ p.drop j) a1 (by omega) (by simp; omega)
    refine ⟨q, s', t', Ev.step (fun k => by rw [spec_l1Cur_sureOrder.l0]) (Ev.yes (by omega) ?_), hl, at_mono a2 (by omega) (by omega)⟩
    rw [w64 (x := (p.length : Int) + 1) (by omega) (by omega)]
    refine Ev.known e1 (Ev.yes (by omega) (Ev.yes (by omega) (Ev.known (l1Own_eq _ (by simp; omega)) (Ev.yes (by simp; omega) (Ev.known rfl (Ev.known rfl (Ev.yes (by simp; omega) ?_)))))))
    rw [w64i (show i < n by omega) (by omega), Int.toNat_natCast]
    exact hq
theorem sureOrder_ok {l : List Int} (h : bytesOk l) {b : Nat} {s : Int} (hs : at_ b s) (t : Int) (n : Nat) (hn : n ≤ 100) (hb : b + 2 * n ≤ 1000000000) :
    ∃ q s' t', Ev (fun k => spec_l1Cur_sureOrder.f k l s t (n : Int)) (q, s', t') ∧ q.length = n ∧ at_ (b + 2 * n) s' := by
  unfold spec_l1Cur_sureOrder.f
  exact sureOrder_loop h n hn n 0 (by omega) b s t [] hs hb rfl
/-- Two neighbours in the wrong order are put right. -/
def swapAt (p : List Int) (j : Nat) : List Int := match p, j with
  | a :: b :: t, 0 => b :: a :: t
  | a :: t, j + 1 => a :: swapAt t j
  | p, _ => p
theorem swapAt_perm (p : List Int) (j : Nat) : (swapAt p j).Perm p := by
  fun_induction swapAt p j with
  | case1 => exact List.Perm.swap _ _ _
  | case2 a t j ih => exact List.Perm.cons _ ih
  | case3 => exact List.Perm.refl _
theorem swapAt_inv : ∀ (p : List Int) (j : Nat) (h : j + 1 < p.length), p[j + 1] < p[j] → inv (swapAt p j) + 1 = inv p := by
  intro p
  induction p with
  | nil => intro j h; simp at h
  | cons a t ih =>
    intro j h hlt
    cases j with
    | zero =>
      cases t with
      | nil => simp at h
      | cons b t =>
        simp only [List.getElem_cons_succ, List.getElem_cons_zero] at hlt
        have e : swapAt (a :: b :: t) 0 = b :: a :: t := rfl
        rw [e]
        simp only [inv, List.countP_cons]
        have h1 : ¬ a < b := by omega
        simp [hlt, h1]; omega
    | succ j =>
      have e : swapAt (a :: t) (j + 1) = a :: swapAt t j := by cases t <;> rfl
      rw [e, inv, inv, (swapAt_perm t j).countP_eq]
      have := ih j (by simp at h; omega) (by simpa using hlt)
      omega
theorem swapAt_set : ∀ (p : List Int) (j : Nat) (h : j + 1 < p.length), (p.set j p[j + 1]).set (j + 1) p[j] = swapAt p j := by
  intro p
  induction p with
  | nil => intro j h; simp at h
  | cons a t ih =>
    intro j h
    cases j with
    | zero =>
      cases t with
      | nil => simp at h
      | cons b t => rfl
    | succ j =>
      have e : swapAt (a :: t) (j + 1) = a :: swapAt t j := by cases t <;> rfl
      rw [e, ← ih j (by simp at h; omega)]; simp
theorem inv_none : ∀ p : List Int, (∀ (j : Nat) (h : j + 1 < p.length), ¬ p[j + 1] < p[j]) → inv p = 0 := by
  intro p
  induction p with
  | nil => intro _; rfl
  | cons a t ih =>
    intro h
    have it := ih (fun j hj => by have := h (j + 1) (by simp; omega); simpa using this)
    cases t with
    | nil => rfl
    | cons b t =>
      have hab := h 0 (by simp)
      simp only [List.getElem_cons_succ, List.getElem_cons_zero] at hab
      rw [inv, it]
      rw [inv] at it
      have c : t.countP (fun y => decide (y < b)) = 0 := by omega
      rw [List.countP_eq_zero] at c
      have : (b :: t).countP (fun y => decide (y < a)) = 0 := by
        rw [List.countP_eq_zero]
        intro y hy
        rw [List.mem_cons] at hy
        rcases hy with rfl | hy
        · simpa using hab
        · have := c y hy
          simp at this ⊢; omega
      omega
theorem alSwap_eq (p : List Int) (j : Nat) (h : j + 1 < p.length) (hp : p.length ≤ 1000) : spec_alSwap.f p (j : Int) = some (swapAt p j) := by
  unfold spec_alSwap.f
  rw [l1Own_eq _ (by omega), Option.bind_some, w64 (by omega) (by omega)]
  have e : (j : Int) + 1 = ((j + 1 : Nat) : Int) := by omega
  rw [e]
  have c1 : (0 : Int) ≤ ((j + 1 : Nat) : Int) := by omega
  have c2 : ((j + 1 : Nat) : Int) < (p.length : Int) := by omega
  have c3 : (0 : Int) ≤ (j : Int) := by omega
  have c4 : (j : Int) < (p.length : Int) := by omega
  simp only [c1, c2, c3, c4, if_true, Int.toNat_natCast]
  rw [rd_nat h, rd_nat (show j < p.length by omega), swapAt_set p j h]
/-- Places where neighbours stand the wrong way round. -/
def wrongs (p ds : List Int) : Prop := ∀ x ∈ ds, ∃ i : Nat, x = i ∧ ∃ h : i + 1 < p.length, p[i + 1] < p[i]
theorem leastOf_l1 (l : List Int) (p : List Int) (hp : p.length ≤ 8) (x6 : Int) (n : Int) (acc : List Int) (s t : Int) : ∀ d j : Nat, j + d = p.length → 1 ≤ p.length → ∀ ds0 : List Int, ds0.length ≤ j → wrongs p ds0 →
    (ds0 = [] → ∀ (i : Nat) (h : i + 1 < p.length), i < j → ¬ p[i + 1] < p[i]) →
    ∃ ds : List Int, ds.length ≤ 8 ∧ wrongs p ds ∧ (ds = [] → ∀ (i : Nat) (h : i + 1 < p.length), ¬ p[i + 1] < p[i]) ∧ ∀ r,
      Ev (fun k => (spec_l1Cur_pick.f l s t (ds.length : Int)).bind fun bt1025 => (if 0 ≤ bt1025.1 then (if bt1025.1 < (ds.length : Int) then (if acc.length < 17592186044416 then ((spec_alSwap.f p (rd ds bt1025.1)).bind fun t1032 => (spec_l1Cur_leastOf.l0 k t1032 (wrap64 (x6 - 1)) l bt1025.2.1 bt1025.2.2 n (acc ++ [rd ds bt1025.1]))) else (none)) else (none)) else (none))) r →
    Ev (fun k => spec_l1Cur_leastOf.l1 k p x6 ds0 (j : Int) l s t n acc) r := by
  intro d
  induction d with
  | zero =>
    intro j hj hp1 ds hd1 hd2 hd3
    refine ⟨ds, by omega, hd2, fun e i hi => hd3 e i hi (by omega), fun r K => ?_⟩
    refine Ev.step (fun k => by rw [spec_l1Cur_leastOf.l1]) ?_
    rw [w64 (by omega) (by omega)]
    exact Ev.no (by omega) K
  | succ d ih =>
    intro j hj hp1 ds hd1 hd2 hd3
    have e : (j : Int) + 1 = ((j + 1 : Nat) : Int) := by omega
    by_cases c : j + 1 < p.length
    · by_cases g : p[j] > p[j + 1]
      · obtain ⟨ds', h1, h2, h3, K⟩ := ih (j + 1) (by omega) hp1 (ds ++ [(j : Int)]) (by simp; omega) (by
          intro x hx
          rw [List.mem_append, List.mem_singleton] at hx
          rcases hx with hx | rfl
          · exact hd2 x hx
          · exact ⟨j, rfl, c, g⟩) (by simp)
        refine ⟨ds', h1, h2, h3, fun r hr => Ev.step (fun k => by rw [spec_l1Cur_leastOf.l1]) ?_⟩
        rw [w64 (x := (j : Int) + 1) (by omega) (by omega), e]
        refine Ev.yes (by omega) (Ev.yes (by omega) (Ev.yes (by omega) (Ev.yes (by omega) ?_)))
        rw [rd_nat c, rd_nat (show j < p.length by omega)]
        exact Ev.yes g (Ev.yes (by omega) (K r hr))
      · obtain ⟨ds', h1, h2, h3, K⟩ := ih (j + 1) (by omega) hp1 ds (by omega) hd2 (by
          intro e0 i hi hij
          by_cases q : i = j
          · subst q; exact g
          · exact hd3 e0 i hi (by omega))
        refine ⟨ds', h1, h2, h3, fun r hr => Ev.step (fun k => by rw [spec_l1Cur_leastOf.l1]) ?_⟩
        rw [w64 (x := (j : Int) + 1) (by omega) (by omega), e]
        refine Ev.yes (by omega) (Ev.yes (by omega) (Ev.yes (by omega) (Ev.yes (by omega) ?_)))
        rw [rd_nat c, rd_nat (show j < p.length by omega)]
        exact Ev.no g (K r hr)
    · refine ⟨ds, by omega, hd2, fun e0 i hi => hd3 e0 i hi (by omega), fun r K => ?_⟩
      refine Ev.step (fun k => by rw [spec_l1Cur_leastOf.l1]) ?_
      rw [w64 (x := (j : Int) + 1) (by omega) (by omega)]
      exact Ev.no (by omega) K
theorem leastOf_l0 {l : List Int} (h : bytesOk l) (n : Int) : ∀ (m : Nat) (p : List Int), inv p = m → 1 ≤ p.length → p.length ≤ 8 → ∀ (b : Nat) (s t : Int) (acc : List Int), at_ b s → b + 2 * m ≤ 1000000000 → acc.length + m ≤ 1000 →
    ∃ q s' t', Ev (fun k => spec_l1Cur_leastOf.l0 k p (m : Int) l s t n acc) (n, q, s', t') ∧ q.length = acc.length + m ∧ at_ (b + 2 * m) s' := by
  intro m
  induction m with
  | zero =>
    intro p hm hp1 hp b s t acc hs hb ha
    exact ⟨acc, s, t, Ev.step (fun k => by rw [spec_l1Cur_leastOf.l0]) (Ev.no (by omega) (Ev.ret rfl)), by omega, hs⟩
  | succ m ih =>
    intro p hm hp1 hp b s t acc hs hb ha
    obtain ⟨ds, h1, h2, h3, K⟩ := leastOf_l1 l p hp ((m + 1 : Nat) : Int) n acc s t p.length 0 (by omega) hp1 [] (by simp) (by intro x hx; simp at hx) (by intro _ i _ hi; omega)
    have hne : ds ≠ [] := by
      intro e
      have := inv_none p (h3 e)
      omega
    have hlen : 0 < ds.length := List.length_pos_iff.2 hne
    obtain ⟨v, s1, t1, e1, v0, v1, a1⟩ := pick_ok h hs (by omega) t (ds.length : Int)
    have v1 := v1 (by omega)
    obtain ⟨j, rfl⟩ := Int.eq_ofNat_of_zero_le v0
    have hj : j < ds.length := by omega
    obtain ⟨i, e2, hi, hlt⟩ := h2 ds[j] (List.getElem_mem hj)
    have e3 := swapAt_inv p i hi hlt
    have e4 := (swapAt_perm p i).length_eq
    obtain ⟨q, s', t', hq, hl, a2⟩ := ih (swapAt p i) (by omega) (by omega) (by omega) (b + 2) s1 t1 (acc ++ [(i : Int)]) a1 (by omega) (by simp; omega)
    refine ⟨q, s', t', ?_, by simp at hl; omega, at_mono a2 (by omega) (by omega)⟩
    refine Ev.step (fun k => by rw [spec_l1Cur_leastOf.l0]) ?_
    refine Ev.yes (by omega) ?_
    refine K _ ?_
    refine Ev.known e1 (Ev.yes (by omega) (Ev.yes (by omega) (Ev.yes (by omega) ?_)))
    rw [rd_nat hj, e2]
    refine Ev.known (alSwap_eq p i hi (by omega)) ?_
    rw [w64 (by omega) (by omega)]
    have e5 : ((m + 1 : Nat) : Int) - 1 = (m : Nat) := by omega
    rw [e5]; exact hq
theorem leastOf_ok {l : List Int} (h : bytesOk l) {b : Nat} {s : Int} (hs : at_ b s) (t : Int) (p : List Int) (hp1 : 1 ≤ p.length) (hp : p.length ≤ 8) (hb : b + 100 ≤ 1000000000) :
    ∃ q s' t', Ev (fun k => spec_l1Cur_leastOf.f k l s t p) ((p.length : Int), q, s', t') ∧ q.length ≤ 28 ∧ at_ (b + 100) s' := by
  have b1 := inv_le p
  have b2 : p.length * p.length ≤ 8 * 8 := Nat.mul_le_mul hp hp
  have b3 : 2 * inv p ≤ 56 := by
    have : p.length = 1 ∨ p.length = 2 ∨ p.length = 3 ∨ p.length = 4 ∨ p.length = 5 ∨ p.length = 6 ∨ p.length = 7 ∨ p.length = 8 := by omega
    rcases this with e | e | e | e | e | e | e | e <;> rw [e] at b1 <;> omega
  obtain ⟨q0, hq0, hl0⟩ := lsInversions_ev p hp
  obtain ⟨q, s', t', hq, hl, a⟩ := leastOf_l0 h (p.length : Int) (inv p) p rfl hp1 hp b s t [] hs (by omega) (by simp; omega)
  refine ⟨q, s', t', ?_, by simp at hl; omega, at_mono a (by omega) hb⟩
  unfold spec_l1Cur_leastOf.f
  refine Ev.bind hq0 ?_
  rw [hl0]; exact hq
theorem least_ok {l : List Int} (h : bytesOk l) {b : Nat} {s : Int} (hs : at_ b s) (t : Int) (n : Nat) (hn : 2 ≤ n) (hn8 : n ≤ 8) (hb : b + 300 ≤ 1000000000) :
    ∃ w q s' t', Ev (fun k => spec_l1Cur_least.f k l s t (n : Int)) (w, q, s', t') ∧ q.length ≤ 61 ∧ at_ (b + 300) s' := by
  obtain ⟨v, s1, t1, e1, a1⟩ := one_ok h hs (by omega) t 10
  unfold spec_l1Cur_least.f
  by_cases c : v = true
  · obtain ⟨w, q, s2, t2, e2, hq, a2⟩ := ladder_ok h a1 t1 (by omega)
    exact ⟨w, q, s2, t2, Ev.known e1 (Ev.yes c (Ev.bind e2 (Ev.ret rfl))), hq, at_mono a2 (by omega) hb⟩
  · obtain ⟨u, s2, t2, e2, u0, u1, a2⟩ := pick_ok h a1 (by omega) t1 ((n : Int) - 1)
    have u1 := u1 (by omega)
    obtain ⟨j, rfl⟩ := Int.eq_ofNat_of_zero_le u0
    obtain ⟨p, s3, t3, e3, hp, a3⟩ := sureOrder_ok h a2 t2 (2 + j) (by omega) (by omega)
    obtain ⟨q, s4, t4, e4, hq, a4⟩ := leastOf_ok h a3 t3 p (by omega) (by omega) (by omega)
    refine ⟨(p.length : Int), q, s4, t4, ?_, by omega, at_mono a4 (by omega) hb⟩
    refine Ev.known e1 (Ev.no c ?_)
    rw [w64 (x := (n : Int) - 1) (by omega) (by omega)]
    refine Ev.known e2 ?_
    rw [w64 (by omega) (by omega)]
    have e : (2 : Int) + (j : Nat) = ((2 + j : Nat) : Int) := by omega
    rw [e]
    exact Ev.bind e3 (Ev.bind e4 (Ev.ret rfl))
end Go.Proofs.Ytlmlamkbedfmhaa.P
end
