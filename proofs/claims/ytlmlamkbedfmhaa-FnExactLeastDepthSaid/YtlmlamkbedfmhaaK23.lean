-- Put together by wip/merge.py (a program of this session's) out of this claim's texts; Lean checks it.
import Derived.Test.YtlmlamkbedfmhaaK21
import Derived.Test.YtlmlamkbedfmhaaK3
import Derived.Test.YtlmlamkbedfmhaaK18
section
set_option linter.unusedVariables false
set_option linter.unusedSimpArgs false
namespace Go.Proofs.Ytlmlamkbedfmhaa.P
open Go.RowKit Go.Proofs.YtlmlamkbedfmhaaW.PrintWords Go.Proofs.YtlmlamkbedfmhaaW.PrintLast Go.Proofs.YtlmlamkbedfmhaaW.PrintMore
section
variable {α : Type} {d : Kd α} {e b b' : Nat} {W W1 W2 w w0 : World} {ok : Nat → Prop} {v : Value} {xs : List α}
theorem qR (h : Aside0 (Kd.R d e W b ok v xs)) (f : Kd.R d e W b ok v xs → Kd.R d e W1 b' ok v xs := by intro h_; (with_reducible repeat (first | apply Kd.R_alloc | apply Kd.R_drewN | apply Kd.R_drew)); exact h_) : Kd.R d e W1 b' ok v xs := f h.out
theorem qS (h : Aside0 (Kd.S d e W b ok v xs)) (f : Kd.S d e W b ok v xs → Kd.S d e W1 b' ok v xs := by intro h_; (with_reducible repeat (first | apply Kd.S_alloc | apply Kd.S_drewN | apply Kd.S_drew)); exact h_) : Kd.S d e W1 b' ok v xs := f h.out
theorem qN (h : Aside0 (Kd.N d e W b ok v xs)) (f : Kd.N d e W b ok v xs → Kd.N d e W1 b' ok v xs := by intro h_; (with_reducible repeat (first | apply Kd.N_alloc | apply Kd.N_drewN | apply Kd.N_drew)); exact h_) : Kd.N d e W1 b' ok v xs := f h.out
theorem qV (h : Aside0 (Kd.V d e W b ok v xs)) (f : Kd.V d e W b ok v xs → Kd.V d e W1 b' ok v xs := by intro h_; (with_reducible repeat (first | apply Kd.V_alloc | apply Kd.V_drewN | apply Kd.V_drew)); exact h_) : Kd.V d e W1 b' ok v xs := f h.out
end
section
variable {W W1 W2 w w0 : World} {g : Nat} {o : Obj} {S : Nat → Prop} {B : Nat} {row : Option Nat}
theorem qB (h : Aside0 (W.heap[g]? = some o)) (f : W.heap[g]? = some o → W1.heap[g]? = some o := by intro h_; (with_reducible repeat (first | refine blk_drewN ?_ _ | refine blk_drew ?_ | refine blk_alloc ?_ _ | (refine blk_far ?_ (Aside0.out (by assumption)) _))); exact h_) : W1.heap[g]? = some o := f h.out
theorem uB (h : Aside0 (W.heap[g]? = some o)) (hb : Below W1.heap.size W1 W2) (f : W.heap[g]? = some o → W1.heap[g]? = some o := by intro h_; (with_reducible repeat (first | refine blk_drewN ?_ _ | refine blk_drew ?_ | refine blk_alloc ?_ _ | (refine blk_far ?_ (Aside0.out (by assumption)) _))); exact h_) : Aside0 (W2.heap[g]? = some o) := ⟨blk_below (f h.out) hb⟩
theorem qD (h : Aside0 (Below B w W)) (f : Below B w W → Below B w W1 := by intro h_; repeat (first | (with_reducible first | exact h_ | apply below_alloc | apply pw_below_drewN | apply below_drew1 | (refine below_set ?_ (Aside0.out (by assumption)))) | exact h_)) : Below B w W1 := f h.out
theorem uD (h : Aside0 (Below w.heap.size w W)) (hb : Below W1.heap.size W1 W2) (f : Below w.heap.size w W → Below w.heap.size w W1 := by intro h_; repeat (first | (with_reducible first | exact h_ | apply below_alloc | apply pw_below_drewN | apply below_drew1 | (refine below_set ?_ (Aside0.out (by assumption)))) | exact h_)) : Aside0 (Below w.heap.size w W2) := ⟨below_step (f h.out) hb⟩
theorem cl {cs : Array Value} {t : TypeId} {u : Value} (h : Aside0 (W.heap[g]? = some (.cells cs t (0, 0)))) (j : Nat) (f : cs[j]? = some u := by rfl) : W.cell? ⟨g, j, none⟩ = some u := (blk_cell h.out j).trans f
end
section
variable {W W1 W2 w w0 : World} {g g' : Nat} {o : Obj} {S : Nat → Prop} {B : Nat} {row : Option Nat}
theorem qK (h : Aside0 (Kept w W S)) (f : Kept w W S → Kept w W1 S := by intro h_; repeat (first | (with_reducible first | exact h_ | apply Kept.alloc | apply Kept.drewN | apply Kept.drew | (refine Kept.setCell ?_ (.inr (Aside0.out (by assumption))) _)) | exact h_)) : Kept w W1 S := f h.out
theorem uK (h : Aside0 (Kept w W S)) (hb : Below W1.heap.size W1 W2) (f : Kept w W S → Kept w W1 S := by intro h_; repeat (first | (with_reducible first | exact h_ | apply Kept.alloc | apply Kept.drewN | apply Kept.drew | (refine Kept.setCell ?_ (.inr (Aside0.out (by assumption))) _)) | exact h_)) : Aside0 (Kept w W2 S) := ⟨Kept.below (f h.out) hb⟩
theorem qk (h : Aside0 (KeepBut w W g none)) (f : KeepBut w W g none → KeepBut w W1 g none := by intro h_; repeat (first | (with_reducible first | exact h_ | apply KeepBut.set_ | apply keep_drewN | apply keep_drew | apply keep_alloc | (refine keep_far ?_ (Aside0.out (by assumption)) _)) | exact h_)) : KeepBut w W1 g none := f h.out
theorem uk (h : Aside0 (KeepBut w W g none)) (hb : Below W1.heap.size W1 W2) (f : KeepBut w W g none → KeepBut w W1 g none := by intro h_; repeat (first | (with_reducible first | exact h_ | apply KeepBut.set_ | apply keep_drewN | apply keep_drew | apply keep_alloc | (refine keep_far ?_ (Aside0.out (by assumption)) _)) | exact h_)) : Aside0 (KeepBut w W2 g none) := ⟨KeepBut.trans (f h.out) (KeepBut.of_below hb g none) (.inl rfl)⟩
theorem gK (hg : g = W1.heap.size) (h : Aside0 (Kept w W S)) (f : Kept w W S → Kept w W1 S := by intro h_; repeat (first | (with_reducible first | exact h_ | apply Kept.alloc | apply Kept.drewN | apply Kept.drew | (refine Kept.setCell ?_ (.inr (Aside0.out (by assumption))) _)) | exact h_)) : Aside0 (w.heap.size ≤ g) := ⟨by rw [hg]; exact (f h.out).1⟩
theorem gk (hg : g = W1.heap.size) (h : Aside0 (KeepBut w W g' none)) (f : KeepBut w W g' none → KeepBut w W1 g' none := by intro h_; repeat (first | (with_reducible first | exact h_ | apply KeepBut.set_ | apply keep_drewN | apply keep_drew | apply keep_alloc | (refine keep_far ?_ (Aside0.out (by assumption)) _)) | exact h_)) : Aside0 (w.heap.size ≤ g) := ⟨by rw [hg]; exact (f h.out).1⟩
theorem gE (hg : g = W1.heap.size) (h : Aside0 (Below w.heap.size w W)) (f : Below w.heap.size w W → Below w.heap.size w W1 := by intro h_; repeat (first | (with_reducible first | exact h_ | apply below_alloc | apply pw_below_drewN | apply below_drew1 | (refine below_set ?_ (Aside0.out (by assumption)))) | exact h_)) : Aside0 (w.heap.size ≤ g) := ⟨by rw [hg]; exact (f h.out).size⟩
theorem nB (hg : g = W1.heap.size) (h : Aside0 (W.heap[g']? = some o)) (f : W.heap[g']? = some o → W1.heap[g']? = some o := by intro h_; (with_reducible repeat (first | refine blk_drewN ?_ _ | refine blk_drew ?_ | refine blk_alloc ?_ _ | (refine blk_far ?_ (Aside0.out (by assumption)) _))); exact h_) : Aside0 (g' ≠ g) := ⟨by rw [hg]; exact Nat.ne_of_lt (blk_lt (f h.out))⟩
theorem nC (hg : g = W1.heap.size) (h : Aside0 (W.heap[g']? = some o)) (f : W.heap[g']? = some o → W1.heap[g']? = some o := by intro h_; (with_reducible repeat (first | refine blk_drewN ?_ _ | refine blk_drew ?_ | refine blk_alloc ?_ _ | (refine blk_far ?_ (Aside0.out (by assumption)) _))); exact h_) : Aside0 (g ≠ g') := ⟨by rw [hg]; exact Nat.ne_of_gt (blk_lt (f h.out))⟩
end
section
variable {α : Type} {d : Kd α} {e b b' : Nat} {W W1 W2 w w0 : World} {ok : Nat → Prop} {v : Value} {xs : List α} {A : Option Addr} {n : Nat}
theorem uR (h : Aside0 (Kd.R d e W b ok v xs)) (hb : Below W1.heap.size W1 W2) (f : Kd.R d e W b ok v xs → Kd.R d e W1 b ok v xs := by intro h_; (with_reducible repeat (first | apply Kd.R_alloc | apply Kd.R_drewN | apply Kd.R_drew)); exact h_) : Aside0 (Kd.R d e W2 b ok v xs) := ⟨Kd.R_below (f h.out) hb⟩
theorem qC (h : d.C W A n xs) (f : d.C W A n xs → d.C W1 A n xs := by intro h_; repeat (first | exact h_ | (with_reducible refine Kd.C_alloc ?_ _) | (with_reducible refine Kd.C_drewN ?_ _) | (with_reducible refine Kd.C_drew ?_))) : d.C W1 A n xs := f h
end
section
variable {P : Program} {ops : Array Oper} {rest : List Oper} {o : Oper} {a : Act} {Q : Exit → Act → World → Prop} {W : World}
theorem bx (N : Tmp) (cs : Array Value) (t : TypeId)
    (h : ∀ g, g = W.heap.size → ∀ w1, w1.heap[g]? = some (.cells cs t (0, 0)) → Below W.heap.size W w1 → wpList P ops Q rest (a.put o.dst (.pointer (some ⟨g, 0, none⟩))) w1)
    (hd : o.dst = some N := by rfl) (hgd : o.guard = none := by rfl)
    (hrun : (execOp a.eval o).run P W = .ok (.value (.pointer (some ⟨W.heap.size, 0, none⟩))) (W.alloc (.cells cs t (0, 0))) := by first | (go_simp; done) | (go_simp; rfl)) : wpList P ops Q (o :: rest) a W := box_event hgd hd hrun h
theorem gs (N : Option Tmp) {f : FuncId} {fn : Func} (hf : P.funcs[f]? = some fn) (args : Array Value)
    (h : Calls P f args W fun e w' => ∃ v, e = .returned v ∧ wpList P ops Q rest (a.put N v) w') {as : Array Operand} {ts : Array TypeId}
    (hd : o.dst = N := by rfl) (hg : o.guard = none := by rfl) (hname : (fn.name == "runtime.NumGoroutine") = false := by kernel_rfl) (hb : fn.body.isSome = true := by rfl)
    (hop : o.op = .call { callee := .value (.func f), args := as, argTypes := ts } := by rfl) (hargs : as.map a.eval = args := by (try simp only [List.map_toArray, List.map_cons, List.map_nil]); first | done | rfl | (simp only [List.length_drop, List.length_take]; rfl)) : wpList P ops Q (o :: rest) a W :=
  goesL_ N hd hg hf hname hb args hop hargs h
end
section
variable {α : Type} {d : Kd α} {e b b' : Nat} {W W1 W2 w w0 : World} {ok ok' : Nat → Prop} {v u : Value} {xs ys : List α} {A : Option Addr} {n : Nat}
theorem mR (h : Aside0 (Kd.R d e W b ok v xs)) (hok : ∀ k, ok k → ok' k) (f : Kd.R d e W b ok v xs → Kd.R d e W1 b' ok v xs := by intro h_; (with_reducible repeat (first | apply Kd.R_alloc | apply Kd.R_drewN | apply Kd.R_drew)); exact h_) : Kd.R d e W1 b' ok' v xs := Kd.R_mono (f h.out) hok
theorem qF {g t i j : Nat} {cs : Array Value} {u1 u2 : Value} (h : Aside0 (Kd.R d e W b ok v xs)) (hB : Aside0 (W.heap[g]? = some (.cells cs t (0, 0)))) (ht : ∀ q, q ∈ e :: d.E → q ≠ t := by decide) : Kd.R d e ((W.setCell ⟨g, i, none⟩ u1).setCell ⟨g, j, none⟩ u2) b ok v xs :=
  Kd.R_mono (Kd.R_far (p := ⟨g, j, none⟩) (Kd.R_far (p := ⟨g, i, none⟩) (Kd.R_types h.out hB.out ht) (fun _ hk => hk.2) u1) (fun _ hk => hk.2) u2) (fun _ hk => hk.1)
theorem qFp {W3 : World} (h : Kd.R d e W b ok v xs) (f : Kd.R d e W b ok v xs → Kd.R d e W3 b ok v xs := by intro h_; (with_reducible repeat (first | apply Kd.R_alloc | apply Kd.R_drewN | apply Kd.R_drew)); exact h_) : Kd.R d e W3 b ok v xs := f h
theorem eR {β : Type} {d' : Kd β} {e' : Nat} {ok2 : Nat → Prop} {zs : List β} (h : Aside0 (Kd.R d e W b ok v xs)) (ho : Kd.R d' e' W2 W1.heap.size ok2 u zs) (hb : Below W1.heap.size W1 W2) (f : Kd.R d e W b ok v xs → Kd.R d e W1 b ok v xs := by intro h_; (with_reducible repeat (first | apply Kd.R_alloc | apply Kd.R_drewN | apply Kd.R_drew)); exact h_) : Aside0 (Kd.R d e W2 b (fun k => ok k ∧ some k ≠ u.ownBlock) v xs) := ⟨Kd.R_elder' (f h.out) (Kd.R_base ho) hb⟩
end
section
variable {P : Program} {ops : Array Oper} {Q : Exit → Act → World → Prop} {md : Region.Mode} {S : World → Prop} {ds : List Nat} {T : Bool × List (List Nat × List Nat)} {B : List Nat}
theorem pu (i : Nat) (N : Option Tmp) (l' : Array Bool) {oi : Oper} {v : Value} {fuel : Nat} {l : Array Bool} {a a' : Act} {w : World} (hT : Aside0 (rtab md ops = T)) (h : wpAnyLast P md ops Q S ds fuel l' a' w)
    (hi : ops[i]? = some oi := by rfl) (hN : oi.dst = N := by rfl) (hc : anyT T l.toList l'.toList i = true := by kernel_rfl) (hQ : ∀ c a w, Q (.panic c) (a.put oi.dst v) w → Q (.panic c) a w := by intro _ _ _ h_; exact h_)
    (hy : Yields P ops oi v a := by exact Or.inl ⟨by rfl, by intro w'; go_simp; with_reducible rfl⟩) (ha : a.put N v = a' := by simp only [Act.put, List.setIfInBounds_toArray, List.set_cons_zero, List.set_cons_succ, i64_w, i32_w]; rfl) : wpAnyLast P md ops Q S ds (fuel + 1) l a w :=
  pure_ l' hi hN (any_of hT.out hc) hQ hy ha h
theorem tk (i : Nat) (N : Option Tmp) (l' : Array Bool) {oi : Oper} {v : Value} {fuel : Nat} {l : Array Bool} {a a' : Act} {w : World} (hT : Aside0 (rtab md ops = T)) (hB : Aside0 (waitsOk T.2 B = true)) (hS : S w) (h : wpAnyLast P md ops Q S ds fuel l' a' w)
    (hi : ops[i]? = some oi := by rfl) (hN : oi.dst = N := by rfl) (hc : takeW T B ds l.toList l'.toList i = true := by kernel_rfl) (hQ : ∀ c a w, Q (.panic c) (a.put oi.dst v) w → Q (.panic c) a w := by intro _ _ _ h_; exact h_)
    (hy : YieldsIf P ops S oi v a := by exact Or.inl ⟨by rfl, by intro w' hS_; go_simp; with_reducible rfl⟩) (ha : a.put N v = a' := by simp only [Act.put, List.setIfInBounds_toArray, List.set_cons_zero, List.set_cons_succ, i64_w, i32_w]; rfl) : wpAnyLast P md ops Q S ds (fuel + 1) l a w :=
  take_ l' hi hN (take_ofW hT.out hB.out hc) hQ hy hS ha h
theorem nm (N : Option Tmp) {fuel : Nat} {l : Array Bool} {a a0 a' : Act} {v : Value} {w : World} (h : wpAnyLast P md ops Q S ds fuel l a' w) (hN : a = a0.put N v := by rfl) (ha : a0.put N v = a' := by simp only [Act.put, List.setIfInBounds_toArray, List.set_cons_zero, List.set_cons_succ, i64_w, i32_w]; rfl) : wpAnyLast P md ops Q S ds fuel l a w := norm_ (hN.trans ha) h
theorem gt {oi : Oper} {N : Option Tmp} {a : Act} {w : World} {K : Act → World → Prop} {f : FuncId} {fn : Func} {as : Array Operand} {ts : Array TypeId} (hf : P.funcs[f]? = some fn) (args : Array Value)
    (h : Calls P f args w fun e w' => ∃ v, e = .returned v ∧ K (a.put N v) w') (hname : (fn.name == "runtime.NumGoroutine") = false := by kernel_rfl) (hb : fn.body.isSome = true := by rfl)
    (hw : Region.wanted oi (yielded ops a.tmps) = true := by rfl) (hN : oi.dst = N := by rfl) (hop : oi.op = .call { callee := .value (.func f), args := as, argTypes := ts } := by rfl) (hargs : as.map a.eval = args := by (try simp only [List.map_toArray, List.map_cons, List.map_nil]); first | done | rfl | (simp only [List.length_drop, List.length_take]; rfl)) : if Region.wanted oi (yielded ops a.tmps) = true then Oper.wp P oi a w K Q else K (a.put N undef) w :=
  goes_ hf hname hb args hw hN hop hargs h
end
end Go.Proofs.Ytlmlamkbedfmhaa.P
end
