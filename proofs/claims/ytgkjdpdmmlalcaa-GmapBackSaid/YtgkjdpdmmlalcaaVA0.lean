import Derived.Test.YtgkjdpdmmlalcaaVZF0
section
namespace Go.Proofs.Ytgkjdpdmmlalcaa.F
open Go.RowKit Go.Proofs.YtgkjdpdmmlalcaaW.PrintWords Go.Proofs.YtgkjdpdmmlalcaaW.PrintLast Go.Proofs.YtgkjdpdmmlalcaaW.PrintMore
set_option linter.unusedVariables false
def mb_ (n k : Nat) : Array Bool := ((List.range n).map (fun i => k.testBit i)).toArray
theorem bT_ {p q : Prop} (h0 : p) (h : p → q := by (intro h0; (with_reducible repeat (first | refine blk_drewN ?_ _ | refine blk_drew ?_ | refine blk_alloc ?_ _)); exact h0)) : q := h h0
theorem bfT_ {p q : Prop} (h0 : p) (h : p → q := by (intro h0; (with_reducible repeat (first | refine blk_drewN ?_ _ | refine blk_drew ?_ | refine blk_alloc ?_ _ | refine blk_far ?_ (Aside0.out (by assumption)) _)); exact h0)) : q := h h0
theorem vT_ {p q : Prop} (h0 : p) (h : p → q := by (intro h0; (with_reducible repeat (first | apply Kd.V_alloc | apply Kd.V_drewN | apply Kd.V_drew)); exact h0)) : q := h h0
theorem beT_ {p : Prop} (h : p := by repeat (first | (with_reducible first | exact HB.out | apply below_alloc | apply pw_below_drewN | apply below_drew1 | refine below_set ?_ (Aside0.out (by assumption))) | exact HB.out)) : p := h
theorem b2_ {w : World} {g : Nat} {t : TypeId} {a0 a1 : Value} (h : w.heap[g]? = some (.cells #[a0, a1] t (0, 0))) : w.cell? ⟨g, 0, none⟩ = some a0 ∧ w.cell? ⟨g, 1, none⟩ = some a1 ∧ w.frozen? ⟨g, 0, none⟩ = false ∧ w.frozen? ⟨g, 1, none⟩ = false := ⟨(blk_cell h 0).trans rfl, (blk_cell h 1).trans rfl, blk_frozen h 0, blk_frozen h 1⟩
theorem b4_ {w : World} {g : Nat} {t : TypeId} {a0 a1 a2 a3 : Value} (h : w.heap[g]? = some (.cells #[a0, a1, a2, a3] t (0, 0))) : w.cell? ⟨g, 0, none⟩ = some a0 ∧ w.cell? ⟨g, 1, none⟩ = some a1 ∧ w.cell? ⟨g, 2, none⟩ = some a2 ∧ w.cell? ⟨g, 3, none⟩ = some a3 ∧ w.frozen? ⟨g, 0, none⟩ = false ∧ w.frozen? ⟨g, 1, none⟩ = false ∧ w.frozen? ⟨g, 2, none⟩ = false ∧ w.frozen? ⟨g, 3, none⟩ = false := ⟨(blk_cell h 0).trans rfl, (blk_cell h 1).trans rfl, (blk_cell h 2).trans rfl, (blk_cell h 3).trans rfl, blk_frozen h 0, blk_frozen h 1, blk_frozen h 2, blk_frozen h 3⟩
theorem b6_ {w : World} {g : Nat} {t : TypeId} {a0 a1 a2 a3 a4 a5 : Value} (h : w.heap[g]? = some (.cells #[a0, a1, a2, a3, a4, a5] t (0, 0))) : w.cell? ⟨g, 0, none⟩ = some a0 ∧ w.cell? ⟨g, 1, none⟩ = some a1 ∧ w.cell? ⟨g, 2, none⟩ = some a2 ∧ w.cell? ⟨g, 3, none⟩ = some a3 ∧ w.cell? ⟨g, 4, none⟩ = some a4 ∧ w.cell? ⟨g, 5, none⟩ = some a5 ∧ w.frozen? ⟨g, 0, none⟩ = false ∧ w.frozen? ⟨g, 1, none⟩ = false ∧ w.frozen? ⟨g, 2, none⟩ = false ∧ w.frozen? ⟨g, 3, none⟩ = false ∧ w.frozen? ⟨g, 4, none⟩ = false ∧ w.frozen? ⟨g, 5, none⟩ = false := ⟨(blk_cell h 0).trans rfl, (blk_cell h 1).trans rfl, (blk_cell h 2).trans rfl, (blk_cell h 3).trans rfl, (blk_cell h 4).trans rfl, (blk_cell h 5).trans rfl, blk_frozen h 0, blk_frozen h 1, blk_frozen h 2, blk_frozen h 3, blk_frozen h 4, blk_frozen h 5⟩
theorem dT_ {p : Prop} [Decidable p] (h : decide p = true := by first | (with_reducible assumption) | assumption) : p := of_decide_eq_true h
theorem r1_ {p : Prop} (h : p := by first | rfl | (simp; done) | (simp [*]; done)) : p := h
theorem r2_ {p : Prop} (h : p := by first | omega | exact Nat.le_refl _) : p := h
theorem r3_ {p : Prop} (h : p := by first | rfl | (simp [errW_none, errW_some] <;> rfl) | (simp [*, errW_none, errW_some] <;> rfl)) : p := h
theorem aT_ {p : Prop} (h : p := by (try simp only [List.map_toArray, List.map_cons, List.map_nil]); first | done | rfl | (simp only [List.length_drop, List.length_take]; rfl)) : p := h
theorem moT_ {p : Prop} (h : p := by repeat' first | (with_reducible exact LeO.refl _) | (with_reducible exact LeO.none _) | (with_reducible apply ih0) | (with_reducible apply ih1) | (with_reducible apply ih2) | (with_reducible apply ih3) | (with_reducible apply ih4) | (with_reducible apply ih5) | (with_reducible apply ih6) | (with_reducible apply ih7) | (with_reducible apply ic0) | (with_reducible apply ic1) | (with_reducible apply ic2) | (with_reducible apply ic3) | (with_reducible apply ic4) | (with_reducible apply ic5) | (with_reducible apply ic6) | (with_reducible refine LeO.ite ?_ ?_) | (with_reducible refine LeO.bind ?_ (fun _ => ?_)) | apply ih0 | apply ih1 | apply ih2 | apply ih3 | apply ic0 | apply ic1 | apply ic2 | apply ic3 | apply ic4 | apply ic5 | apply ic6 | exact LeO.none _ | refine LeO.ite ?_ ?_ | refine LeO.bind ?_ (fun _ => ?_)) : p := h
theorem hN_ {α : Type} {a b r : α} (h : (if false = true then a else b) = r) : b = r := (if_neg (by decide)).symm.trans h
theorem hP_ {α : Type} {a b r : α} (h : (if true = true then a else b) = r) : a = r := (if_pos rfl).symm.trans h
theorem geT_ (n : Nat) {m g : Nat} (hg : g = m) (h : n ≤ m := by exact below_size beT_) : Aside0 (n ≤ g) := ⟨hg ▸ h⟩
theorem kB_ {w w1 w' : World} {g : Nat} {o : Obj} (h0 : Aside0 (w.heap[g]? = some o)) (hb : Below w1.heap.size w1 w') (h : w.heap[g]? = some o → w1.heap[g]? = some o := by (intro h0; (with_reducible repeat (first | refine blk_drewN ?_ _ | refine blk_drew ?_ | refine blk_alloc ?_ _ | refine blk_far ?_ (Aside0.out (by assumption)) _)); exact h0)) : Aside0 (w'.heap[g]? = some o) := ⟨blk_below (h h0.out) hb⟩
theorem hB_ {w W w2 : World} (hb : Below W.heap.size W w2) (h : Below w.heap.size w W := by exact beT_) : Aside0 (Below w.heap.size w w2) := ⟨below_step h hb⟩
theorem nlT_ {w w1 : World} {g g' : Nat} {o : Obj} (h0 : w.heap[g]? = some o) (hg : g' = w1.heap.size) (h : w.heap[g]? = some o → w1.heap[g]? = some o := by (intro h0; (with_reducible repeat (first | refine blk_drewN ?_ _ | refine blk_drew ?_ | refine blk_alloc ?_ _ | refine blk_far ?_ (Aside0.out (by assumption)) _)); exact h0)) : Aside0 (g ≠ g') := ⟨hg ▸ Nat.ne_of_lt (blk_lt (h h0))⟩
theorem ngT_ {w w1 : World} {g g' : Nat} {o : Obj} (h0 : w.heap[g]? = some o) (hg : g' = w1.heap.size) (h : w.heap[g]? = some o → w1.heap[g]? = some o := by (intro h0; (with_reducible repeat (first | refine blk_drewN ?_ _ | refine blk_drew ?_ | refine blk_alloc ?_ _ | refine blk_far ?_ (Aside0.out (by assumption)) _)); exact h0)) : Aside0 (g' ≠ g) := ⟨hg ▸ Nat.ne_of_gt (blk_lt (h h0))⟩
theorem kE_ {w : World} {g : Nat} {t : TypeId} {cs cs' : Array Value} (h : w.heap[g]? = some (.cells cs t (0, 0))) (e : cs = cs') : w.heap[g]? = some (.cells cs' t (0, 0)) := e ▸ h
theorem kP_ {p q : Prop} (h0 : p) (h : p → q := by (intro h0; apply kE_; (repeat (with_reducible first | exact h0 | refine blk_drewN ?_ _ | refine blk_drew ?_ | refine blk_alloc ?_ _ | apply blk_set | apply blk_far)); all_goals (first | exact (Aside0.out (by assumption)) | rfl | (simp [*]; done)))) : q := h h0
theorem hX_ {w W : World} {a : Addr} {v : Value} (h0 : w.cell? a = some v) (h : Below w.heap.size w W := by exact HB.out) : W.cell? a = some v := (h.cell (World.block_lt_of_cell? w _ h0)).trans h0
theorem cT_ {p q : Prop} (h0 : p) (h : p → q := by (intro h0; repeat (first | exact h0 | (with_reducible refine Kd.C_alloc ?_ _) | (with_reducible refine Kd.C_drewN ?_ _) | (with_reducible refine Kd.C_drew ?_)))) : q := h h0
section
variable {α : Type} {d : Kd α} {e base g : Nat} {ok ok' : Nat → Prop} {W w1 w2 : World} {v : Value} {xs : List α} {p : Prop}
theorem vE_ (h0 : p) (hg : g = W.heap.size) (hb : Below W.heap.size W w1) (h : p → Kd.V d e W base ok v xs := by (intro h0; (with_reducible repeat (first | apply Kd.V_alloc | apply Kd.V_drewN | apply Kd.V_drew)); exact h0)) : Aside0 (Kd.V d e w1 base (fun k => ok k ∧ k ≠ g) v xs) := ⟨Kd.V_below (Kd.V_elderB (h h0) g (Nat.le_of_eq hg.symm)) hb⟩
theorem vB_ (h0 : p) (hb : Below W.heap.size W w1) (h : p → Kd.V d e W base ok v xs := by (intro h0; (with_reducible repeat (first | apply Kd.V_alloc | apply Kd.V_drewN | apply Kd.V_drew)); exact h0)) : Aside0 (Kd.V d e w1 base ok v xs) := ⟨Kd.V_below (h h0) hb⟩
theorem vF_ (h0 : Kd.V d e W base ok v xs) (hm : ∀ k, ok k → k < W.heap.size → w1.heap[k]? = W.heap[k]? := by (intro k hk hl; repeat' (first | (with_reducible rfl) | (refine (Below.heap_setCell _ _ _ _ ?_).trans ?_) | (show k ≠ _; clear hl; first | exact hk.2 | exact hk.2.1 | exact hk.2.2 | exact hk.1.2 | omega | grind) | exact rfl))) (ho : ∀ k, ok k → ok' k := by (intro k hk; first | exact hk | exact hk.1 | exact hk.1.1 | exact hk.1.1.1 | exact hk.1.1.1.1 | exact trivial | grind | (have h1 : ∀ k : Nat, some k ≠ (Value.slice none 0 0).ownBlock := (by simp [Value.ownBlock]); grind))) : Kd.V d e w1 base ok' v xs := Kd.V_mono (Kd.V_step h0 hm) ho
theorem vM_ (h0 : Kd.V d e W base ok v xs) (hm : ∀ k, ok k → k < W.heap.size → w1.heap[k]? = W.heap[k]? := by (intro k hk hl; first | (with_reducible rfl) | exact rfl)) (ho : ∀ k, ok k → ok' k := by (intro k hk; first | exact hk | exact hk.1 | exact trivial | grind | (have h1 : ∀ k : Nat, some k ≠ (Value.slice none 0 0).ownBlock := (by simp [Value.ownBlock]); grind))) : Kd.V d e w1 base ok' v xs := Kd.V_mono (Kd.V_step h0 hm) ho
end
section
variable {P : Program} {ops : Array Oper} {rest : List Oper} {Q : Exit → Act → World → Prop} {a : Act} {w W : World} {oi : Oper}
theorem gL_ (N : Option Tmp) {f : FuncId} {fn : Func} {az : Array Operand} {ts : Array TypeId} (hf : P.funcs[f]? = some fn) (args : Array Value)
    (h : Calls P f args w fun e w' => ∃ v, e = .returned v ∧ wpList P ops Q rest (a.put N v) w')
    (hd : oi.dst = N := by rfl) (hg : oi.guard = none := by rfl) (hname : (fn.name == "runtime.NumGoroutine") = false := by kernel_rfl) (hb : fn.body.isSome = true := by rfl)
    (hop : oi.op = .call { callee := .value (.func f), args := az, argTypes := ts } := by rfl) (hargs : az.map a.eval = args := by exact aT_) : wpList P ops Q (oi :: rest) a w := goesL_ N hd hg hf hname hb args hop hargs h
theorem bE_ (N : Tmp) (cs : Array Value) (t : TypeId) (h : ∀ g, g = W.heap.size → ∀ w1, w1.heap[g]? = some (.cells cs t (0, 0)) → Below W.heap.size W w1 → wpList P ops Q rest (a.put oi.dst (.pointer (some ⟨g, 0, none⟩))) w1)
    (hd : oi.dst = some N := by rfl) (hg : oi.guard = none := by rfl) (hr : (execOp a.eval oi).run P W = .ok (.value (.pointer (some ⟨W.heap.size, 0, none⟩))) (W.alloc (.cells cs t (0, 0))) := by first | kernel_rfl | (go_simp; done) | (go_simp; rfl)) : wpList P ops Q (oi :: rest) a W := box_event hg hd hr h
end
section
variable {P : Program} {ops : Array Oper} {Q : Exit → Act → World → Prop} {md : Region.Mode} {S : World → Prop} {ds : List Nat}
theorem pS_ (i n_ : Nat) (l' : Array Bool) {oi : Oper} {v : Value} {fuel : Nat} {l : Array Bool} {a : Act} {w : World} {a' : Act} (h : wpAnyLast P md ops Q S ds fuel l' a' w)
    (hi : ops[i]? = some oi := by exact rfl) (hN : oi.dst = some n_ := by exact rfl) (hc : anyB md ops l l' i = true := by exact any_of HT_.out (by kernel_rfl)) (hy : Yields P ops oi v a := by (refine Or.inl ⟨by rfl, ?_⟩; intro w'; go_simp; with_reducible rfl))
    (hQ : ∀ c a w, Q (.panic c) (a.put oi.dst v) w → Q (.panic c) a w := by exact fun _ _ _ h => h) (ha : a.put (some n_) v = a' := by (simp only [Act.put, List.setIfInBounds_toArray, List.set_cons_zero, List.set_cons_succ, i64_w, i32_w]; rfl)) :
    wpAnyLast P md ops Q S ds (fuel + 1) l a w := pure_ l' hi hN hc hQ hy ha h
theorem uS_ (i n_ : Nat) (l' : Array Bool) {oi : Oper} {fuel : Nat} {l : Array Bool} {a : Act} {w : World} {a' : Act} (h : wpAnyLast P md ops Q S ds fuel l' a' w)
    (hi : ops[i]? = some oi := by exact rfl) (hN : oi.dst = some n_ := by exact rfl) (hc : anyB md ops l l' i = true := by exact any_of HT_.out (by kernel_rfl)) (hy : Yields P ops oi undef a := by exact Or.inr ⟨by rfl, rfl⟩)
    (hQ : ∀ c a w, Q (.panic c) (a.put oi.dst undef) w → Q (.panic c) a w := by exact fun _ _ _ h => h) (ha : a.put (some n_) undef = a' := by (simp only [Act.put, List.setIfInBounds_toArray, List.set_cons_zero, List.set_cons_succ, i64_w, i32_w]; rfl)) :
    wpAnyLast P md ops Q S ds (fuel + 1) l a w := pure_ l' hi hN hc hQ hy ha h
theorem nS_ {fuel : Nat} {l : Array Bool} {a a' : Act} {w : World} (h : wpAnyLast P md ops Q S ds fuel l a' w) (ha : a = a' := by (show Act.put _ _ _ = _; simp only [Act.put, List.setIfInBounds_toArray, List.set_cons_zero, List.set_cons_succ, i64_w, i32_w]; rfl)) :
    wpAnyLast P md ops Q S ds fuel l a w := norm_ ha h
theorem t2S_ (i n_ : Nat) (l' : Array Bool) {oi : Oper} {v : Value} {fuel : Nat} {l : Array Bool} {a : Act} {w : World} {a' : Act} (h : wpAnyLast P md ops Q S ds fuel l' a' w)
    (hi : ops[i]? = some oi := by exact rfl) (hN : oi.dst = some n_ := by exact rfl) (hc : takeB md ops ds l l' i = true := by exact take_ofW HT_.out HW_.out (by kernel_rfl)) (hy : YieldsIf P ops S oi v a := by (refine Or.inl ⟨by rfl, ?_⟩; rintro w' ⟨s0, s1⟩; go_simp; with_reducible rfl)) (hS : S w := by exact hHeld)
    (hQ : ∀ c a w, Q (.panic c) (a.put oi.dst v) w → Q (.panic c) a w := by exact fun _ _ _ h => h) (ha : a.put (some n_) v = a' := by (simp only [Act.put, List.setIfInBounds_toArray, List.set_cons_zero, List.set_cons_succ, i64_w, i32_w]; rfl)) :
    wpAnyLast P md ops Q S ds (fuel + 1) l a w := take_ l' hi hN hc hQ hy hS ha h
theorem t4S_ (i n_ : Nat) (l' : Array Bool) {oi : Oper} {v : Value} {fuel : Nat} {l : Array Bool} {a : Act} {w : World} {a' : Act} (h : wpAnyLast P md ops Q S ds fuel l' a' w)
    (hi : ops[i]? = some oi := by exact rfl) (hN : oi.dst = some n_ := by exact rfl) (hc : takeB md ops ds l l' i = true := by exact take_ofW HT_.out HW_.out (by kernel_rfl)) (hy : YieldsIf P ops S oi v a := by (refine Or.inl ⟨by rfl, ?_⟩; rintro w' ⟨s0, s1, s2, s3⟩; go_simp; with_reducible rfl)) (hS : S w := by exact hHeld)
    (hQ : ∀ c a w, Q (.panic c) (a.put oi.dst v) w → Q (.panic c) a w := by exact fun _ _ _ h => h) (ha : a.put (some n_) v = a' := by (simp only [Act.put, List.setIfInBounds_toArray, List.set_cons_zero, List.set_cons_succ, i64_w, i32_w]; rfl)) :
    wpAnyLast P md ops Q S ds (fuel + 1) l a w := take_ l' hi hN hc hQ hy hS ha h
theorem t5S_ (i n_ : Nat) (l' : Array Bool) {oi : Oper} {v : Value} {fuel : Nat} {l : Array Bool} {a : Act} {w : World} {a' : Act} (h : wpAnyLast P md ops Q S ds fuel l' a' w)
    (hi : ops[i]? = some oi := by exact rfl) (hN : oi.dst = some n_ := by exact rfl) (hc : takeB md ops ds l l' i = true := by exact take_ofW HT_.out HW_.out (by kernel_rfl)) (hy : YieldsIf P ops S oi v a := by (refine Or.inl ⟨by rfl, ?_⟩; rintro w' ⟨s0, s1, s2, s3, s4⟩; go_simp; with_reducible rfl)) (hS : S w := by exact hHeld)
    (hQ : ∀ c a w, Q (.panic c) (a.put oi.dst v) w → Q (.panic c) a w := by exact fun _ _ _ h => h) (ha : a.put (some n_) v = a' := by (simp only [Act.put, List.setIfInBounds_toArray, List.set_cons_zero, List.set_cons_succ, i64_w, i32_w]; rfl)) :
    wpAnyLast P md ops Q S ds (fuel + 1) l a w := take_ l' hi hN hc hQ hy hS ha h
theorem t6S_ (i n_ : Nat) (l' : Array Bool) {oi : Oper} {v : Value} {fuel : Nat} {l : Array Bool} {a : Act} {w : World} {a' : Act} (h : wpAnyLast P md ops Q S ds fuel l' a' w)
    (hi : ops[i]? = some oi := by exact rfl) (hN : oi.dst = some n_ := by exact rfl) (hc : takeB md ops ds l l' i = true := by exact take_ofW HT_.out HW_.out (by kernel_rfl)) (hy : YieldsIf P ops S oi v a := by (refine Or.inl ⟨by rfl, ?_⟩; rintro w' ⟨s0, s1, s2, s3, s4, s5⟩; go_simp; with_reducible rfl)) (hS : S w := by exact hHeld)
    (hQ : ∀ c a w, Q (.panic c) (a.put oi.dst v) w → Q (.panic c) a w := by exact fun _ _ _ h => h) (ha : a.put (some n_) v = a' := by (simp only [Act.put, List.setIfInBounds_toArray, List.set_cons_zero, List.set_cons_succ, i64_w, i32_w]; rfl)) :
    wpAnyLast P md ops Q S ds (fuel + 1) l a w := take_ l' hi hN hc hQ hy hS ha h
theorem t7S_ (i n_ : Nat) (l' : Array Bool) {oi : Oper} {v : Value} {fuel : Nat} {l : Array Bool} {a : Act} {w : World} {a' : Act} (h : wpAnyLast P md ops Q S ds fuel l' a' w)
    (hi : ops[i]? = some oi := by exact rfl) (hN : oi.dst = some n_ := by exact rfl) (hc : takeB md ops ds l l' i = true := by exact take_ofW HT_.out HW_.out (by kernel_rfl)) (hy : YieldsIf P ops S oi v a := by (refine Or.inl ⟨by rfl, ?_⟩; rintro w' ⟨s0, s1, s2, s3, s4, s5, s6⟩; go_simp; with_reducible rfl)) (hS : S w := by exact hHeld)
    (hQ : ∀ c a w, Q (.panic c) (a.put oi.dst v) w → Q (.panic c) a w := by exact fun _ _ _ h => h) (ha : a.put (some n_) v = a' := by (simp only [Act.put, List.setIfInBounds_toArray, List.set_cons_zero, List.set_cons_succ, i64_w, i32_w]; rfl)) :
    wpAnyLast P md ops Q S ds (fuel + 1) l a w := take_ l' hi hN hc hQ hy hS ha h
theorem t8S_ (i n_ : Nat) (l' : Array Bool) {oi : Oper} {v : Value} {fuel : Nat} {l : Array Bool} {a : Act} {w : World} {a' : Act} (h : wpAnyLast P md ops Q S ds fuel l' a' w)
    (hi : ops[i]? = some oi := by exact rfl) (hN : oi.dst = some n_ := by exact rfl) (hc : takeB md ops ds l l' i = true := by exact take_ofW HT_.out HW_.out (by kernel_rfl)) (hy : YieldsIf P ops S oi v a := by (refine Or.inl ⟨by rfl, ?_⟩; rintro w' ⟨s0, s1, s2, s3, s4, s5, s6, s7⟩; go_simp; with_reducible rfl)) (hS : S w := by exact hHeld)
    (hQ : ∀ c a w, Q (.panic c) (a.put oi.dst v) w → Q (.panic c) a w := by exact fun _ _ _ h => h) (ha : a.put (some n_) v = a' := by (simp only [Act.put, List.setIfInBounds_toArray, List.set_cons_zero, List.set_cons_succ, i64_w, i32_w]; rfl)) :
    wpAnyLast P md ops Q S ds (fuel + 1) l a w := take_ l' hi hN hc hQ hy hS ha h
end
end Go.Proofs.Ytgkjdpdmmlalcaa.F
end
section
namespace Go.Proofs.Ytgkjdpdmmlalcaa.F
open Go.RowKit Go.Proofs.YtgkjdpdmmlalcaaW.PrintWords Go.Proofs.YtgkjdpdmmlalcaaW.PrintLast Go.Proofs.YtgkjdpdmmlalcaaW.PrintMore
attribute [local go_sem] max2_int min2_int max_two min_two max_three min_three max_four min_four
set_option linter.unusedVariables false
set_option linter.unusedSimpArgs false

def ferrylaw06_few.f (l0_0 : List (S83)) (l0_1 : List (S88)) (a0_2 : Int) (l0_3 : List (S41)) (a0_4 : Int) (a0_5 : Int) : Option (Bool) := if (l0_0.length : Int) ≤ 70 then (if (l0_1.length : Int) ≤ 100 then (some (decide ((l0_3.length : Int) ≤ 80))) else (some false)) else (some false)
set_option maxHeartbeats 8000000 in
set_option maxRecDepth 100000 in
theorem ferrylaw06_few.calls (A0_0 : Option Addr) (c0_0 : Nat) (l0_0 : List (S83)) (A0_1 : Option Addr) (c0_1 : Nat) (l0_1 : List (S88)) (a0_2 : Int) (A0_3 : Option Addr) (c0_3 : Nat) (l0_3 : List (S41)) (a0_4 : Int) (a0_5 : Int) (r : Bool) (w : World) (hr0_0 : Kd.C k83 w A0_0 l0_0.length l0_0) (hc0_0 : l0_0.length ≤ c0_0) (hr0_1 : Kd.C k88 w A0_1 l0_1.length l0_1) (hc0_1 : l0_1.length ≤ c0_1) (hr0_3 : Kd.C k41 w A0_3 l0_3.length l0_3) (hc0_3 : l0_3.length ≤ c0_3) (h : ferrylaw06_few.f l0_0 l0_1 a0_2 l0_3 a0_4 a0_5 = some r) :
    Calls Try.prog 31 #[.agg #[.slice A0_0 l0_0.length c0_0, .slice A0_1 l0_1.length c0_1, .int .u64 a0_2, .slice A0_3 l0_3.length c0_3, .int .u32 a0_4, .int .u32 a0_5]] w fun e w' => e = .returned (.bool r) ∧ Below w.heap.size w w' := by
  have hu63 := Try.underlying63
  have hu29 := Try.underlying29
  have HR0_0 := Aside0.mk hr0_0
  have HC0_0 := Aside0.mk hc0_0
  clear hr0_0 hc0_0
  have HR0_1 := Aside0.mk hr0_1
  have HC0_1 := Aside0.mk hc0_1
  clear hr0_1 hc0_1
  have HR0_3 := Aside0.mk hr0_3
  have HC0_3 := Aside0.mk hc0_3
  clear hr0_3 hc0_3
  have HB := Aside0.mk (Below.refl w.heap.size w)
  have H : (if (l0_0.length : Int) ≤ 70 then (if (l0_1.length : Int) ≤ 100 then (some (decide ((l0_3.length : Int) ≤ 80))) else (some false)) else (some false)) = some r := h
  clear h
  by_cases c2 : (l0_0.length : Int) ≤ 70
  · rw [if_pos c2] at H
    have c2b0 : decide ((l0_0.length : Int) ≤ 70) = true := decide_eq_true c2
    have c2b1 : decide (l0_0.length ≤ 70) = true := decide_eq_true (by omega)
    clear c2
    by_cases c3 : (l0_1.length : Int) ≤ 100
    · rw [if_pos c3] at H
      have c3b0 : decide ((l0_1.length : Int) ≤ 100) = true := decide_eq_true c3
      have c3b1 : decide (l0_1.length ≤ 100) = true := decide_eq_true (by omega)
      clear c3
      obtain rfl := Option.some.inj H
      go_enter Try.func31, Try.ntmps31
      go_wp2_with (first | ((with_reducible refine gate_dst (N := 1) rfl ?_); (try (refine gate_guard (by rfl) ?_; dsimp only)); refine bE_ 1 #[.slice A0_0 l0_0.length c0_0, .slice A0_1 l0_1.length c0_1, .int .u64 a0_2, .slice A0_3 l0_3.length c0_3, .int .u32 a0_4, .int .u32 a0_5] 63 ?_; intro gb653 hg w4 hbox hb; have BK653 := Aside0.mk hbox; have GW653 := geT_ w.heap.size hg; have GE653 := geT_ w.heap.size hg; replace HB := hB_ hb; clear hb hbox hg; obtain ⟨hcz5_0, hcz5_1, hcz5_2, hcz5_3, hcz5_4, hcz5_5, hfz5_0, hfz5_1, hfz5_2, hfz5_3, hfz5_4, hfz5_5⟩ := b6_ BK653.out) | ((with_reducible refine gate_dst (N := 3) rfl ?_); (try (refine gate_guard (by rfl) ?_; dsimp only)); refine bE_ 3 #[.slice none 0 0, .slice none 0 0, .int .u64 0, .slice none 0 0] 29 ?_; intro gb654 hg w6 hbox hb; have BK654 := Aside0.mk hbox; have GW654 := geT_ w.heap.size hg; have GE654 := geT_ w.heap.size hg; have NB653_654 := nlT_ BK653.out hg; have NB654_653 := ngT_ BK653.out hg; replace BK653 := kB_ BK653 hb; replace HB := hB_ hb; clear hb hbox hg; have hnb7 := NB654_653.out; have hnc7 := NB653_654.out; obtain ⟨hcz8_0, hcz8_1, hcz8_2, hcz8_3, hfz8_0, hfz8_1, hfz8_2, hfz8_3⟩ := b4_ BK654.out))
      go_ret
      exact ⟨r3_, beT_⟩
    rw [if_neg c3] at H
    have c3b0 : decide ((l0_1.length : Int) ≤ 100) = false := decide_eq_false c3
    have c3b1 : decide (l0_1.length ≤ 100) = false := decide_eq_false (by omega)
    clear c3
    obtain rfl := Option.some.inj H
    go_enter Try.func31, Try.ntmps31
    go_wp2_with (first | ((with_reducible refine gate_dst (N := 1) rfl ?_); (try (refine gate_guard (by rfl) ?_; dsimp only)); refine bE_ 1 #[.slice A0_0 l0_0.length c0_0, .slice A0_1 l0_1.length c0_1, .int .u64 a0_2, .slice A0_3 l0_3.length c0_3, .int .u32 a0_4, .int .u32 a0_5] 63 ?_; intro gb653 hg w9 hbox hb; have BK653 := Aside0.mk hbox; have GW653 := geT_ w.heap.size hg; have GE653 := geT_ w.heap.size hg; replace HB := hB_ hb; clear hb hbox hg; obtain ⟨hcz10_0, hcz10_1, hcz10_2, hcz10_3, hcz10_4, hcz10_5, hfz10_0, hfz10_1, hfz10_2, hfz10_3, hfz10_4, hfz10_5⟩ := b6_ BK653.out) | ((with_reducible refine gate_dst (N := 3) rfl ?_); (try (refine gate_guard (by rfl) ?_; dsimp only)); refine bE_ 3 #[.slice none 0 0, .slice none 0 0, .int .u64 0, .slice none 0 0] 29 ?_; intro gb654 hg w11 hbox hb; have BK654 := Aside0.mk hbox; have GW654 := geT_ w.heap.size hg; have GE654 := geT_ w.heap.size hg; have NB653_654 := nlT_ BK653.out hg; have NB654_653 := ngT_ BK653.out hg; replace BK653 := kB_ BK653 hb; replace HB := hB_ hb; clear hb hbox hg; have hnb12 := NB654_653.out; have hnc12 := NB653_654.out; obtain ⟨hcz13_0, hcz13_1, hcz13_2, hcz13_3, hfz13_0, hfz13_1, hfz13_2, hfz13_3⟩ := b4_ BK654.out))
    go_ret
    exact ⟨r3_, beT_⟩
  rw [if_neg c2] at H
  have c2b0 : decide ((l0_0.length : Int) ≤ 70) = false := decide_eq_false c2
  have c2b1 : decide (l0_0.length ≤ 70) = false := decide_eq_false (by omega)
  clear c2
  obtain rfl := Option.some.inj H
  go_enter Try.func31, Try.ntmps31
  go_wp2_with (first | ((with_reducible refine gate_dst (N := 1) rfl ?_); (try (refine gate_guard (by rfl) ?_; dsimp only)); refine bE_ 1 #[.slice A0_0 l0_0.length c0_0, .slice A0_1 l0_1.length c0_1, .int .u64 a0_2, .slice A0_3 l0_3.length c0_3, .int .u32 a0_4, .int .u32 a0_5] 63 ?_; intro gb653 hg w14 hbox hb; have BK653 := Aside0.mk hbox; have GW653 := geT_ w.heap.size hg; have GE653 := geT_ w.heap.size hg; replace HB := hB_ hb; clear hb hbox hg; obtain ⟨hcz15_0, hcz15_1, hcz15_2, hcz15_3, hcz15_4, hcz15_5, hfz15_0, hfz15_1, hfz15_2, hfz15_3, hfz15_4, hfz15_5⟩ := b6_ BK653.out) | ((with_reducible refine gate_dst (N := 3) rfl ?_); (try (refine gate_guard (by rfl) ?_; dsimp only)); refine bE_ 3 #[.slice none 0 0, .slice none 0 0, .int .u64 0, .slice none 0 0] 29 ?_; intro gb654 hg w16 hbox hb; have BK654 := Aside0.mk hbox; have GW654 := geT_ w.heap.size hg; have GE654 := geT_ w.heap.size hg; have NB653_654 := nlT_ BK653.out hg; have NB654_653 := ngT_ BK653.out hg; replace BK653 := kB_ BK653 hb; replace HB := hB_ hb; clear hb hbox hg; have hnb17 := NB654_653.out; have hnc17 := NB653_654.out; obtain ⟨hcz18_0, hcz18_1, hcz18_2, hcz18_3, hfz18_0, hfz18_1, hfz18_2, hfz18_3⟩ := b4_ BK654.out))
  go_ret
  exact ⟨r3_, beT_⟩

end Go.Proofs.Ytgkjdpdmmlalcaa.F
end
section
namespace Go.Proofs.Ytgkjdpdmmlalcaa.F
open Go.RowKit Go.Proofs.YtgkjdpdmmlalcaaW.PrintWords Go.Proofs.YtgkjdpdmmlalcaaW.PrintLast Go.Proofs.YtgkjdpdmmlalcaaW.PrintMore
attribute [local go_sem] max2_int min2_int max_two min_two max_three min_three max_four min_four
set_option linter.unusedVariables false
set_option linter.unusedSimpArgs false

def ferryref04_Prot.l0 : Nat → Int → Int → List (S83) → List (S88) → Int → List (S41) → Option (Int)
  | 0, _, _, _, _, _, _ => none
  | k + 1, x1, x5, x102000, x102001, x102002, x102003 => if x5 < (x102003.length : Int) then (if 0 ≤ x5 then (if ((rd_T41 x102003 x5).f0) = x1 then (some ((rd_T41 x102003 x5).f1)) else (ferryref04_Prot.l0 k x1 (wrap64 (x5 + 1)) x102000 x102001 x102002 x102003)) else (none)) else (some (-1))
def ferryref04_Prot.f (k : Nat) (l0_0 : List (S83)) (l0_1 : List (S88)) (a0_2 : Int) (l0_3 : List (S41)) (a1 : Int) : Option (Int) := ferryref04_Prot.l0 k a1 0 l0_0 l0_1 a0_2 l0_3
theorem ferryref04_Prot.mono_l : ∀ k, (∀ y0 y1 y2 y3 y4 y5, LeO (ferryref04_Prot.l0 k y0 y1 y2 y3 y4 y5) (ferryref04_Prot.l0 (k + 1) y0 y1 y2 y3 y4 y5))
  | 0 => fun _ _ _ _ _ _ r h => by simp [ferryref04_Prot.l0] at h
  | k + 1 => by
    have ih0 := ferryref04_Prot.mono_l k
    · intro y0 y1 y2 y3 y4 y5
      unfold ferryref04_Prot.l0
      exact moT_
theorem ferryref04_Prot.mono : ∀ a0 a1 a2 a3 a4 k, LeO (ferryref04_Prot.f k a0 a1 a2 a3 a4) (ferryref04_Prot.f (k + 1) a0 a1 a2 a3 a4) := by
  intro a0 a1 a2 a3 a4 k
  have ih0 := ferryref04_Prot.mono_l k
  unfold ferryref04_Prot.f
  exact moT_
set_option maxHeartbeats 8000000 in
set_option maxRecDepth 100000 in
theorem ferryref04_Prot.calls (k : Nat) (A0_0 : Option Addr) (c0_0 : Nat) (l0_0 : List (S83)) (A0_1 : Option Addr) (c0_1 : Nat) (l0_1 : List (S88)) (a0_2 : Int) (A0_3 : Option Addr) (c0_3 : Nat) (l0_3 : List (S41)) (a1 : Int) (r : Int) (w : World) (hr0_0 : Kd.C k83 w A0_0 l0_0.length l0_0) (hc0_0 : l0_0.length ≤ c0_0) (hr0_1 : Kd.C k88 w A0_1 l0_1.length l0_1) (hc0_1 : l0_1.length ≤ c0_1) (hr0_3 : Kd.C k41 w A0_3 l0_3.length l0_3) (hc0_3 : l0_3.length ≤ c0_3) (h : ferryref04_Prot.f k l0_0 l0_1 a0_2 l0_3 a1 = some r) :
    Calls Try.prog 30 #[.agg #[.slice A0_0 l0_0.length c0_0, .slice A0_1 l0_1.length c0_1, .int .u64 a0_2, .slice A0_3 l0_3.length c0_3], .int .u32 a1] w fun e w' => e = .returned (.int .i64 r) ∧ Below w.heap.size w w' := by
  have hu29 := Try.underlying29
  have HR0_0 := Aside0.mk hr0_0
  have HC0_0 := Aside0.mk hc0_0
  clear hr0_0 hc0_0
  have HR0_1 := Aside0.mk hr0_1
  have HC0_1 := Aside0.mk hc0_1
  clear hr0_1 hc0_1
  have HR0_3 := Aside0.mk hr0_3
  have HC0_3 := Aside0.mk hc0_3
  clear hr0_3 hc0_3
  have HB := Aside0.mk (Below.refl w.heap.size w)
  have H : (ferryref04_Prot.l0 k a1 0 l0_0 l0_1 a0_2 l0_3) = some r := h
  clear h
  have H' := Aside0.mk H
  clear H
  go_enter Try.func30, Try.ntmps30
  go_wp2_with (first | ((with_reducible refine gate_dst (N := 2) rfl ?_); refine bE_ 2 #[.slice A0_0 l0_0.length c0_0, .slice A0_1 l0_1.length c0_1, .int .u64 a0_2, .slice A0_3 l0_3.length c0_3] 29 ?_; intro gb101 hg w3 hbox hb; have BK101 := Aside0.mk hbox; have GW101 := geT_ w.heap.size hg; have GE101 := geT_ w.heap.size hg; replace HB := hB_ hb; clear hb hbox hg))
  go_loopg [5] k (fun kq v5 w' => ∃ (x5_1 : Int), v5 = .int .i64 x5_1 ∧ Aside0 (ferryref04_Prot.l0 kq a1 x5_1 l0_0 l0_1 a0_2 l0_3 = some r) ∧ Aside0 (kq ≤ k) ∧ Aside0 (w'.heap[gb101]? = some (.cells #[(.slice A0_0 l0_0.length c0_0), (.slice A0_1 l0_1.length c0_1), .int .u64 a0_2, (.slice A0_3 l0_3.length c0_3)] 29 (0, 0))) ∧ Aside0 (Below w.heap.size w w'))
  case atStart => exact ⟨(0), r1_, H', ⟨Nat.le_refl _⟩, ⟨bT_ BK101.out⟩, ⟨beT_⟩⟩
  case round =>
    clear H'
    try clear p2
    try clear c3
    obtain ⟨x5_1, rfl, HA, HK1, BK101, HB⟩ := hrel
    cases gk with
    | zero => exact absurd HA.out (by simp [ferryref04_Prot.l0])
    | succ k1 =>
      have H := HA.out
      clear HA
      simp only [ferryref04_Prot.l0] at H
      by_cases c4 : x5_1 < (l0_3.length : Int)
      · rw [if_pos c4] at H
        have c4b0 : decide (x5_1 < (l0_3.length : Int)) = true := decide_eq_true c4
        clear c4
        by_cases c5 : 0 ≤ x5_1
        · rw [if_pos c5] at H
          have c5b0 : decide (0 ≤ x5_1) = true := decide_eq_true c5
          clear c5
          by_cases c6 : ((rd_T41 l0_3 x5_1).f0) = a1
          · rw [if_pos c6] at H
            have c6b0 : (((rd_T41 l0_3 x5_1).f0) == a1) = true := beq_iff_eq.mpr c6
            have c6b1 : (((rd_T41 l0_3 x5_1).f0) != a1) = false := bne_eq_false_iff_eq.mpr c6
            clear c6
            obtain rfl := Option.some.inj H
            obtain ⟨hcz7_0, hcz7_1, hcz7_2, hcz7_3, hfz7_0, hfz7_1, hfz7_2, hfz7_3⟩ := b4_ BK101.out
            have p102 : 0 ≤ (x5_1 : Int) := dT_
            have q102 : x5_1 < (l0_3.length : Int) := dT_
            obtain ⟨ad102, e102, hx102_0, hx102_1⟩ := at_T41 HR0_3.out x5_1 p102 q102
            cases e102
            replace hx102_0 := hX_ hx102_0
            replace hx102_1 := hX_ hx102_1
            replace p102 := eq_true p102
            replace q102 := eq_true q102
            have p103 : 0 ≤ (x5_1 : Int) := dT_
            have q103 : x5_1 < (l0_3.length : Int) := dT_
            obtain ⟨ad103, e103, hx103_0, hx103_1⟩ := at_T41 HR0_3.out x5_1 p103 q103
            obtain rfl : ad102 = ad103 := (by injection e103)
            replace hx103_0 := hX_ hx103_0
            replace hx103_1 := hX_ hx103_1
            replace p103 := eq_true p103
            replace q103 := eq_true q103
            go_wp2
            go_ret
            exact ⟨r3_, beT_⟩
          rw [if_neg c6] at H
          have c6b0 : (((rd_T41 l0_3 x5_1).f0) == a1) = false := beq_eq_false_iff_ne.mpr c6
          have c6b1 : (((rd_T41 l0_3 x5_1).f0) != a1) = true := bne_iff_ne.mpr c6
          have H' := Aside0.mk H
          clear H
          obtain ⟨hcz8_0, hcz8_1, hcz8_2, hcz8_3, hfz8_0, hfz8_1, hfz8_2, hfz8_3⟩ := b4_ BK101.out
          have p102 : 0 ≤ (x5_1 : Int) := dT_
          have q102 : x5_1 < (l0_3.length : Int) := dT_
          obtain ⟨ad102, e102, hx102_0, hx102_1⟩ := at_T41 HR0_3.out x5_1 p102 q102
          cases e102
          replace hx102_0 := hX_ hx102_0
          replace hx102_1 := hX_ hx102_1
          replace p102 := eq_true p102
          replace q102 := eq_true q102
          go_wp2
          go_roundg k1
          case measure => have := HK1.out; omega
          case rel => exact ⟨(wrap64 (x5_1 + 1)), r1_, H', ⟨by have := HK1.out; omega⟩, ⟨bT_ BK101.out⟩, ⟨beT_⟩⟩
        rw [if_neg c5] at H
        exact absurd H (by simp)
      rw [if_neg c4] at H
      have c4b0 : decide (x5_1 < (l0_3.length : Int)) = false := decide_eq_false c4
      clear c4
      obtain rfl := Option.some.inj H
      obtain ⟨hcz9_0, hcz9_1, hcz9_2, hcz9_3, hfz9_0, hfz9_1, hfz9_2, hfz9_3⟩ := b4_ BK101.out
      go_wp2
      go_ret
      exact ⟨r3_, beT_⟩

end Go.Proofs.Ytgkjdpdmmlalcaa.F
end
section
namespace Go.Proofs.Ytgkjdpdmmlalcaa.F
open Go.RowKit Go.Proofs.YtgkjdpdmmlalcaaW.PrintWords Go.Proofs.YtgkjdpdmmlalcaaW.PrintLast Go.Proofs.YtgkjdpdmmlalcaaW.PrintMore
attribute [local go_sem] max2_int min2_int max_two min_two max_three min_three max_four min_four
set_option linter.unusedVariables false
set_option linter.unusedSimpArgs false

def ferryref03_Place.l0 : Nat → Int → Int → List (S83) → List (S88) → Option (Int)
  | 0, _, _, _, _ => none
  | k + 1, x1, x5, x105000, x105001 => if x5 < (x105000.length : Int) then (if 0 ≤ x5 then (if ((rd_T83 x105000 x5).f0) = x1 then (some x5) else (ferryref03_Place.l0 k x1 (wrap64 (x5 + 1)) x105000 x105001)) else (none)) else (some (-1))
def ferryref03_Place.f (k : Nat) (l0_0 : List (S83)) (l0_1 : List (S88)) (a1 : Int) : Option (Int) := ferryref03_Place.l0 k a1 0 l0_0 l0_1
set_option maxHeartbeats 8000000 in
set_option maxRecDepth 100000 in
theorem ferryref03_Place.calls (k : Nat) (A0_0 : Option Addr) (c0_0 : Nat) (l0_0 : List (S83)) (A0_1 : Option Addr) (c0_1 : Nat) (l0_1 : List (S88)) (a1 : Int) (r : Int) (w : World) (hr0_0 : Kd.C k83 w A0_0 l0_0.length l0_0) (hc0_0 : l0_0.length ≤ c0_0) (hr0_1 : Kd.C k88 w A0_1 l0_1.length l0_1) (hc0_1 : l0_1.length ≤ c0_1) (h : ferryref03_Place.f k l0_0 l0_1 a1 = some r) :
    Calls Try.prog 45 #[.agg #[.slice A0_0 l0_0.length c0_0, .slice A0_1 l0_1.length c0_1], .int .u64 a1] w fun e w' => e = .returned (.int .i64 r) ∧ Below w.heap.size w w' := by
  have hu25 := Try.underlying25
  have HR0_0 := Aside0.mk hr0_0
  have HC0_0 := Aside0.mk hc0_0
  clear hr0_0 hc0_0
  have HR0_1 := Aside0.mk hr0_1
  have HC0_1 := Aside0.mk hc0_1
  clear hr0_1 hc0_1
  have HB := Aside0.mk (Below.refl w.heap.size w)
  have H : (ferryref03_Place.l0 k a1 0 l0_0 l0_1) = some r := h
  clear h
  have H' := Aside0.mk H
  clear H
  go_enter Try.func45, Try.ntmps45
  go_wp2_with (first | ((with_reducible refine gate_dst (N := 2) rfl ?_); refine bE_ 2 #[.slice A0_0 l0_0.length c0_0, .slice A0_1 l0_1.length c0_1] 25 ?_; intro gb104 hg w3 hbox hb; have BK104 := Aside0.mk hbox; have GW104 := geT_ w.heap.size hg; have GE104 := geT_ w.heap.size hg; replace HB := hB_ hb; clear hb hbox hg))
  go_loopg [5] k (fun kq v5 w' => ∃ (x5_1 : Int), v5 = .int .i64 x5_1 ∧ Aside0 (ferryref03_Place.l0 kq a1 x5_1 l0_0 l0_1 = some r) ∧ Aside0 (kq ≤ k) ∧ Aside0 (w'.heap[gb104]? = some (.cells #[(.slice A0_0 l0_0.length c0_0), (.slice A0_1 l0_1.length c0_1)] 25 (0, 0))) ∧ Aside0 (Below w.heap.size w w'))
  case atStart => exact ⟨(0), r1_, H', ⟨Nat.le_refl _⟩, ⟨bT_ BK104.out⟩, ⟨beT_⟩⟩
  case round =>
    clear H'
    try clear p2
    obtain ⟨x5_1, rfl, HA, HK1, BK104, HB⟩ := hrel
    cases gk with
    | zero => exact absurd HA.out (by simp [ferryref03_Place.l0])
    | succ k1 =>
      have H := HA.out
      clear HA
      simp only [ferryref03_Place.l0] at H
      by_cases c4 : x5_1 < (l0_0.length : Int)
      · rw [if_pos c4] at H
        have c4b0 : decide (x5_1 < (l0_0.length : Int)) = true := decide_eq_true c4
        clear c4
        by_cases c5 : 0 ≤ x5_1
        · rw [if_pos c5] at H
          have c5b0 : decide (0 ≤ x5_1) = true := decide_eq_true c5
          clear c5
          by_cases c6 : ((rd_T83 l0_0 x5_1).f0) = a1
          · rw [if_pos c6] at H
            have c6b0 : (((rd_T83 l0_0 x5_1).f0) == a1) = true := beq_iff_eq.mpr c6
            have c6b1 : (((rd_T83 l0_0 x5_1).f0) != a1) = false := bne_eq_false_iff_eq.mpr c6
            clear c6
            obtain rfl := Option.some.inj H
            obtain ⟨hcz7_0, hcz7_1, hfz7_0, hfz7_1⟩ := b2_ BK104.out
            have p105 : 0 ≤ (x5_1 : Int) := dT_
            have q105 : x5_1 < (l0_0.length : Int) := dT_
            obtain ⟨ad105, e105, hx105_0, hx105_1⟩ := at_T83 HR0_0.out x5_1 p105 q105
            cases e105
            replace hx105_0 := hX_ hx105_0
            replace hx105_1 := hX_ hx105_1
            replace p105 := eq_true p105
            replace q105 := eq_true q105
            go_wp2
            go_ret
            exact ⟨r3_, beT_⟩
          rw [if_neg c6] at H
          have c6b0 : (((rd_T83 l0_0 x5_1).f0) == a1) = false := beq_eq_false_iff_ne.mpr c6
          have c6b1 : (((rd_T83 l0_0 x5_1).f0) != a1) = true := bne_iff_ne.mpr c6
          have H' := Aside0.mk H
          clear H
          obtain ⟨hcz8_0, hcz8_1, hfz8_0, hfz8_1⟩ := b2_ BK104.out
          have p105 : 0 ≤ (x5_1 : Int) := dT_
          have q105 : x5_1 < (l0_0.length : Int) := dT_
          obtain ⟨ad105, e105, hx105_0, hx105_1⟩ := at_T83 HR0_0.out x5_1 p105 q105
          cases e105
          replace hx105_0 := hX_ hx105_0
          replace hx105_1 := hX_ hx105_1
          replace p105 := eq_true p105
          replace q105 := eq_true q105
          go_wp2
          go_roundg k1
          case measure => have := HK1.out; omega
          case rel => exact ⟨(wrap64 (x5_1 + 1)), r1_, H', ⟨by have := HK1.out; omega⟩, ⟨bT_ BK104.out⟩, ⟨beT_⟩⟩
        rw [if_neg c5] at H
        exact absurd H (by simp)
      rw [if_neg c4] at H
      have c4b0 : decide (x5_1 < (l0_0.length : Int)) = false := decide_eq_false c4
      clear c4
      obtain rfl := Option.some.inj H
      obtain ⟨hcz9_0, hcz9_1, hfz9_0, hfz9_1⟩ := b2_ BK104.out
      go_wp2
      go_ret
      exact ⟨r3_, beT_⟩

end Go.Proofs.Ytgkjdpdmmlalcaa.F
end
section
namespace Go.Proofs.Ytgkjdpdmmlalcaa.F
open Go.RowKit Go.Proofs.YtgkjdpdmmlalcaaW.PrintWords Go.Proofs.YtgkjdpdmmlalcaaW.PrintLast Go.Proofs.YtgkjdpdmmlalcaaW.PrintMore
attribute [local go_sem] max2_int min2_int max_two min_two max_three min_three max_four min_four
set_option linter.unusedVariables false
set_option linter.unusedSimpArgs false

def ferryref04_own.f (l0_0 : List (S83)) (l0_1 : List (S88)) (a0_2 : Int) (l0_3 : List (S41)) (a1 : Int) : Option (Int × Bool) := if a1 < a0_2 then (some (0, false)) else (if (IntKind.u64.wrap (a1 - a0_2)) ≥ 4294967296 then (some (0, false)) else (some ((IntKind.u64.wrap (Int.tdiv (IntKind.u64.wrap (a1 - a0_2)) 4096)) % 4294967296, true)))
set_option maxHeartbeats 8000000 in
set_option maxRecDepth 100000 in
theorem ferryref04_own.calls (A0_0 : Option Addr) (c0_0 : Nat) (l0_0 : List (S83)) (A0_1 : Option Addr) (c0_1 : Nat) (l0_1 : List (S88)) (a0_2 : Int) (A0_3 : Option Addr) (c0_3 : Nat) (l0_3 : List (S41)) (a1 : Int) (r1 : Int) (r2 : Bool) (w : World) (hr0_0 : Kd.C k83 w A0_0 l0_0.length l0_0) (hc0_0 : l0_0.length ≤ c0_0) (hr0_1 : Kd.C k88 w A0_1 l0_1.length l0_1) (hc0_1 : l0_1.length ≤ c0_1) (hr0_3 : Kd.C k41 w A0_3 l0_3.length l0_3) (hc0_3 : l0_3.length ≤ c0_3) (h : ferryref04_own.f l0_0 l0_1 a0_2 l0_3 a1 = some (r1, r2)) :
    Calls Try.prog 46 #[.agg #[.slice A0_0 l0_0.length c0_0, .slice A0_1 l0_1.length c0_1, .int .u64 a0_2, .slice A0_3 l0_3.length c0_3], .int .u64 a1] w fun e w' => e = .returned (.tuple #[.int .u32 r1, .bool r2]) ∧ Below w.heap.size w w' := by
  have hu29 := Try.underlying29
  have HR0_0 := Aside0.mk hr0_0
  have HC0_0 := Aside0.mk hc0_0
  clear hr0_0 hc0_0
  have HR0_1 := Aside0.mk hr0_1
  have HC0_1 := Aside0.mk hc0_1
  clear hr0_1 hc0_1
  have HR0_3 := Aside0.mk hr0_3
  have HC0_3 := Aside0.mk hc0_3
  clear hr0_3 hc0_3
  have HB := Aside0.mk (Below.refl w.heap.size w)
  have H : (if a1 < a0_2 then (some (0, false)) else (if (IntKind.u64.wrap (a1 - a0_2)) ≥ 4294967296 then (some (0, false)) else (some ((IntKind.u64.wrap (Int.tdiv (IntKind.u64.wrap (a1 - a0_2)) 4096)) % 4294967296, true)))) = some (r1, r2) := h
  clear h
  by_cases c3 : a1 < a0_2
  · rw [if_pos c3] at H
    have c3b0 : decide (a1 < a0_2) = true := decide_eq_true c3
    clear c3
    simp only [Option.some.injEq, Prod.mk.injEq] at H
    obtain ⟨rfl, rfl⟩ := H
    go_enter Try.func46, Try.ntmps46
    go_wp2_with (first | ((with_reducible refine gate_dst (N := 2) rfl ?_); refine bE_ 2 #[.slice A0_0 l0_0.length c0_0, .slice A0_1 l0_1.length c0_1, .int .u64 a0_2, .slice A0_3 l0_3.length c0_3] 29 ?_; intro gb106 hg w4 hbox hb; have BK106 := Aside0.mk hbox; have GW106 := geT_ w.heap.size hg; have GE106 := geT_ w.heap.size hg; replace HB := hB_ hb; clear hb hbox hg; obtain ⟨hcz5_0, hcz5_1, hcz5_2, hcz5_3, hfz5_0, hfz5_1, hfz5_2, hfz5_3⟩ := b4_ BK106.out))
    go_ret2
    exact ⟨r3_, beT_⟩
  rw [if_neg c3] at H
  have c3b0 : decide (a1 < a0_2) = false := decide_eq_false c3
  clear c3
  by_cases c6 : (IntKind.u64.wrap (a1 - a0_2)) ≥ 4294967296
  · rw [if_pos c6] at H
    have c6b0 : decide (4294967296 ≤ (IntKind.u64.wrap (a1 - a0_2))) = true := decide_eq_true c6
    clear c6
    simp only [Option.some.injEq, Prod.mk.injEq] at H
    obtain ⟨rfl, rfl⟩ := H
    go_enter Try.func46, Try.ntmps46
    go_wp2_with (first | ((with_reducible refine gate_dst (N := 2) rfl ?_); refine bE_ 2 #[.slice A0_0 l0_0.length c0_0, .slice A0_1 l0_1.length c0_1, .int .u64 a0_2, .slice A0_3 l0_3.length c0_3] 29 ?_; intro gb106 hg w7 hbox hb; have BK106 := Aside0.mk hbox; have GW106 := geT_ w.heap.size hg; have GE106 := geT_ w.heap.size hg; replace HB := hB_ hb; clear hb hbox hg; obtain ⟨hcz8_0, hcz8_1, hcz8_2, hcz8_3, hfz8_0, hfz8_1, hfz8_2, hfz8_3⟩ := b4_ BK106.out))
    go_ret2
    exact ⟨r3_, beT_⟩
  rw [if_neg c6] at H
  have c6b0 : decide (4294967296 ≤ (IntKind.u64.wrap (a1 - a0_2))) = false := decide_eq_false c6
  clear c6
  simp only [Option.some.injEq, Prod.mk.injEq] at H
  obtain ⟨rfl, rfl⟩ := H
  go_enter Try.func46, Try.ntmps46
  go_wp2_with (first | ((with_reducible refine gate_dst (N := 2) rfl ?_); refine bE_ 2 #[.slice A0_0 l0_0.length c0_0, .slice A0_1 l0_1.length c0_1, .int .u64 a0_2, .slice A0_3 l0_3.length c0_3] 29 ?_; intro gb106 hg w9 hbox hb; have BK106 := Aside0.mk hbox; have GW106 := geT_ w.heap.size hg; have GE106 := geT_ w.heap.size hg; replace HB := hB_ hb; clear hb hbox hg; obtain ⟨hcz10_0, hcz10_1, hcz10_2, hcz10_3, hfz10_0, hfz10_1, hfz10_2, hfz10_3⟩ := b4_ BK106.out))
  go_ret2
  exact ⟨r3_, beT_⟩

end Go.Proofs.Ytgkjdpdmmlalcaa.F
end
section
namespace Go.Proofs.Ytgkjdpdmmlalcaa.F
open Go.RowKit Go.Proofs.YtgkjdpdmmlalcaaW.PrintWords Go.Proofs.YtgkjdpdmmlalcaaW.PrintLast Go.Proofs.YtgkjdpdmmlalcaaW.PrintMore
attribute [local go_sem] max2_int min2_int max_two min_two max_three min_three max_four min_four
set_option linter.unusedVariables false
set_option linter.unusedSimpArgs false

def ferryref04_used.l0 : Nat → Int → Int → List (S83) → List (S88) → Int → List (S41) → Option (Bool)
  | 0, _, _, _, _, _, _ => none
  | k + 1, x1, x5, x108000, x108001, x108002, x108003 => if x5 < (x108003.length : Int) then (if 0 ≤ x5 then (if (IntKind.u64.wrap (Int.tdiv (IntKind.u64.wrap (x108002 + (IntKind.u64.wrap ((IntKind.u64.wrap ((rd_T41 x108003 x5).f0)) * 4096)))) 16384)) = x1 then (some true) else (ferryref04_used.l0 k x1 (wrap64 (x5 + 1)) x108000 x108001 x108002 x108003)) else (none)) else (some false)
def ferryref04_used.f (k : Nat) (l0_0 : List (S83)) (l0_1 : List (S88)) (a0_2 : Int) (l0_3 : List (S41)) (a1 : Int) : Option (Bool) := ferryref04_used.l0 k a1 0 l0_0 l0_1 a0_2 l0_3
set_option maxHeartbeats 8000000 in
set_option maxRecDepth 100000 in
theorem ferryref04_used.calls (k : Nat) (A0_0 : Option Addr) (c0_0 : Nat) (l0_0 : List (S83)) (A0_1 : Option Addr) (c0_1 : Nat) (l0_1 : List (S88)) (a0_2 : Int) (A0_3 : Option Addr) (c0_3 : Nat) (l0_3 : List (S41)) (a1 : Int) (r : Bool) (w : World) (hr0_0 : Kd.C k83 w A0_0 l0_0.length l0_0) (hc0_0 : l0_0.length ≤ c0_0) (hr0_1 : Kd.C k88 w A0_1 l0_1.length l0_1) (hc0_1 : l0_1.length ≤ c0_1) (hr0_3 : Kd.C k41 w A0_3 l0_3.length l0_3) (hc0_3 : l0_3.length ≤ c0_3) (h : ferryref04_used.f k l0_0 l0_1 a0_2 l0_3 a1 = some r) :
    Calls Try.prog 47 #[.agg #[.slice A0_0 l0_0.length c0_0, .slice A0_1 l0_1.length c0_1, .int .u64 a0_2, .slice A0_3 l0_3.length c0_3], .int .u64 a1] w fun e w' => e = .returned (.bool r) ∧ Below w.heap.size w w' := by
  have hu29 := Try.underlying29
  have HR0_0 := Aside0.mk hr0_0
  have HC0_0 := Aside0.mk hc0_0
  clear hr0_0 hc0_0
  have HR0_1 := Aside0.mk hr0_1
  have HC0_1 := Aside0.mk hc0_1
  clear hr0_1 hc0_1
  have HR0_3 := Aside0.mk hr0_3
  have HC0_3 := Aside0.mk hc0_3
  clear hr0_3 hc0_3
  have HB := Aside0.mk (Below.refl w.heap.size w)
  have H : (ferryref04_used.l0 k a1 0 l0_0 l0_1 a0_2 l0_3) = some r := h
  clear h
  have H' := Aside0.mk H
  clear H
  go_enter Try.func47, Try.ntmps47
  go_wp2_with (first | ((with_reducible refine gate_dst (N := 2) rfl ?_); refine bE_ 2 #[.slice A0_0 l0_0.length c0_0, .slice A0_1 l0_1.length c0_1, .int .u64 a0_2, .slice A0_3 l0_3.length c0_3] 29 ?_; intro gb107 hg w3 hbox hb; have BK107 := Aside0.mk hbox; have GW107 := geT_ w.heap.size hg; have GE107 := geT_ w.heap.size hg; replace HB := hB_ hb; clear hb hbox hg))
  repeat (go_quiet (first | ((with_reducible refine gate_dst (N := 2) rfl ?_); refine bE_ 2 #[.slice A0_0 l0_0.length c0_0, .slice A0_1 l0_1.length c0_1, .int .u64 a0_2, .slice A0_3 l0_3.length c0_3] 29 ?_; intro gb107 hg w3 hbox hb; have BK107 := Aside0.mk hbox; have GW107 := geT_ w.heap.size hg; have GE107 := geT_ w.heap.size hg; replace HB := hB_ hb; clear hb hbox hg)); try go_wp2_with (first | ((with_reducible refine gate_dst (N := 2) rfl ?_); refine bE_ 2 #[.slice A0_0 l0_0.length c0_0, .slice A0_1 l0_1.length c0_1, .int .u64 a0_2, .slice A0_3 l0_3.length c0_3] 29 ?_; intro gb107 hg w3 hbox hb; have BK107 := Aside0.mk hbox; have GW107 := geT_ w.heap.size hg; have GE107 := geT_ w.heap.size hg; replace HB := hB_ hb; clear hb hbox hg)))
  go_loopg [5] k (fun kq v5 w' => ∃ (x5_1 : Int), v5 = .int .i64 x5_1 ∧ Aside0 (ferryref04_used.l0 kq a1 x5_1 l0_0 l0_1 a0_2 l0_3 = some r) ∧ Aside0 (kq ≤ k) ∧ Aside0 (w'.heap[gb107]? = some (.cells #[(.slice A0_0 l0_0.length c0_0), (.slice A0_1 l0_1.length c0_1), .int .u64 a0_2, (.slice A0_3 l0_3.length c0_3)] 29 (0, 0))) ∧ Aside0 (Below w.heap.size w w'))
  case atStart => exact ⟨(0), r1_, H', ⟨Nat.le_refl _⟩, ⟨bT_ BK107.out⟩, ⟨beT_⟩⟩
  case round =>
    clear H'
    try clear p2
    obtain ⟨x5_1, rfl, HA, HK1, BK107, HB⟩ := hrel
    cases gk with
    | zero => exact absurd HA.out (by simp [ferryref04_used.l0])
    | succ k1 =>
      have H := HA.out
      clear HA
      simp only [ferryref04_used.l0] at H
      by_cases c4 : x5_1 < (l0_3.length : Int)
      · rw [if_pos c4] at H
        have c4b0 : decide (x5_1 < (l0_3.length : Int)) = true := decide_eq_true c4
        clear c4
        by_cases c5 : 0 ≤ x5_1
        · rw [if_pos c5] at H
          have c5b0 : decide (0 ≤ x5_1) = true := decide_eq_true c5
          clear c5
          by_cases c6 : (IntKind.u64.wrap (Int.tdiv (IntKind.u64.wrap (a0_2 + (IntKind.u64.wrap ((IntKind.u64.wrap ((rd_T41 l0_3 x5_1).f0)) * 4096)))) 16384)) = a1
          · rw [if_pos c6] at H
            have c6b0 : ((IntKind.u64.wrap (Int.tdiv (IntKind.u64.wrap (a0_2 + (IntKind.u64.wrap ((IntKind.u64.wrap ((rd_T41 l0_3 x5_1).f0)) * 4096)))) 16384)) == a1) = true := beq_iff_eq.mpr c6
            have c6b1 : ((IntKind.u64.wrap (Int.tdiv (IntKind.u64.wrap (a0_2 + (IntKind.u64.wrap ((IntKind.u64.wrap ((rd_T41 l0_3 x5_1).f0)) * 4096)))) 16384)) != a1) = false := bne_eq_false_iff_eq.mpr c6
            clear c6
            obtain rfl := Option.some.inj H
            obtain ⟨hcz7_0, hcz7_1, hcz7_2, hcz7_3, hfz7_0, hfz7_1, hfz7_2, hfz7_3⟩ := b4_ BK107.out
            have p108 : 0 ≤ (x5_1 : Int) := dT_
            have q108 : x5_1 < (l0_3.length : Int) := dT_
            obtain ⟨ad108, e108, hx108_0, hx108_1⟩ := at_T41 HR0_3.out x5_1 p108 q108
            cases e108
            replace hx108_0 := hX_ hx108_0
            replace hx108_1 := hX_ hx108_1
            replace p108 := eq_true p108
            replace q108 := eq_true q108
            go_wp2
            repeat (go_quiet (fail); try go_wp2)
            go_ret
            exact ⟨r3_, beT_⟩
          rw [if_neg c6] at H
          have c6b0 : ((IntKind.u64.wrap (Int.tdiv (IntKind.u64.wrap (a0_2 + (IntKind.u64.wrap ((IntKind.u64.wrap ((rd_T41 l0_3 x5_1).f0)) * 4096)))) 16384)) == a1) = false := beq_eq_false_iff_ne.mpr c6
          have c6b1 : ((IntKind.u64.wrap (Int.tdiv (IntKind.u64.wrap (a0_2 + (IntKind.u64.wrap ((IntKind.u64.wrap ((rd_T41 l0_3 x5_1).f0)) * 4096)))) 16384)) != a1) = true := bne_iff_ne.mpr c6
          have H' := Aside0.mk H
          clear H
          obtain ⟨hcz8_0, hcz8_1, hcz8_2, hcz8_3, hfz8_0, hfz8_1, hfz8_2, hfz8_3⟩ := b4_ BK107.out
          have p108 : 0 ≤ (x5_1 : Int) := dT_
          have q108 : x5_1 < (l0_3.length : Int) := dT_
          obtain ⟨ad108, e108, hx108_0, hx108_1⟩ := at_T41 HR0_3.out x5_1 p108 q108
          cases e108
          replace hx108_0 := hX_ hx108_0
          replace hx108_1 := hX_ hx108_1
          replace p108 := eq_true p108
          replace q108 := eq_true q108
          go_wp2
          repeat (go_quiet (fail); try go_wp2)
          go_roundg k1
          case measure => have := HK1.out; omega
          case rel => exact ⟨(wrap64 (x5_1 + 1)), r1_, H', ⟨by have := HK1.out; omega⟩, ⟨bT_ BK107.out⟩, ⟨beT_⟩⟩
        rw [if_neg c5] at H
        exact absurd H (by simp)
      rw [if_neg c4] at H
      have c4b0 : decide (x5_1 < (l0_3.length : Int)) = false := decide_eq_false c4
      clear c4
      obtain rfl := Option.some.inj H
      obtain ⟨hcz9_0, hcz9_1, hcz9_2, hcz9_3, hfz9_0, hfz9_1, hfz9_2, hfz9_3⟩ := b4_ BK107.out
      go_wp2
      repeat (go_quiet (fail); try go_wp2)
      go_ret
      exact ⟨r3_, beT_⟩

end Go.Proofs.Ytgkjdpdmmlalcaa.F
end
section
namespace Go.Proofs.Ytgkjdpdmmlalcaa.F
set_option linter.unusedVariables false
section
variable {α : Type} (key val : α → Int)
def Rises : List α → Prop
  | [] => True
  | [_] => True
  | x :: y :: l => key x < key y ∧ Rises (y :: l)
theorem rises_tail {x : α} {l : List α} (h : Rises key (x :: l)) : Rises key l := by
  cases l with
  | nil => trivial
  | cons y l => exact h.2
theorem rises_head : ∀ {l : List α} {x : α}, Rises key (x :: l) → ∀ y ∈ l, key x < key y
  | [], _, _, y, hy => by simp at hy
  | z :: l, x, h, y, hy => by
    rcases List.mem_cons.1 hy with rfl | hy
    · exact h.1
    · exact Int.lt_trans h.1 (rises_head h.2 y hy)
theorem rises_cons {x : α} {l : List α} (h : ∀ y ∈ l, key x < key y) (hl : Rises key l) : Rises key (x :: l) := by
  cases l with
  | nil => trivial
  | cons y l => exact ⟨h y List.mem_cons_self, hl⟩
theorem rises_append : ∀ {l m : List α}, Rises key l → Rises key m → (∀ x ∈ l, ∀ y ∈ m, key x < key y) → Rises key (l ++ m)
  | [], _, _, hm, _ => hm
  | x :: l, m, hl, hm, h => by
    refine rises_cons key (fun y hy => ?_) (rises_append (rises_tail key hl) hm (fun a ha b hb => h a (List.mem_cons_of_mem _ ha) b hb))
    rcases List.mem_append.1 hy with hy | hy
    · exact rises_head key hl y hy
    · exact h x List.mem_cons_self y hy
theorem rises_left : ∀ {l m : List α}, Rises key (l ++ m) → Rises key l
  | [], _, _ => trivial
  | x :: l, m, h => rises_cons key (fun y hy => rises_head key h y (List.mem_append_left _ hy)) (rises_left (rises_tail key h))
theorem rises_right : ∀ {l m : List α}, Rises key (l ++ m) → Rises key m
  | [], _, h => h
  | x :: l, m, h => rises_right (l := l) (rises_tail key h)
theorem rises_filter (p : α → Bool) : ∀ {l : List α}, Rises key l → Rises key (l.filter p)
  | [], _ => trivial
  | x :: l, h => by
    rw [List.filter_cons]
    split
    · exact rises_cons key (fun y hy => rises_head key h y (List.mem_filter.1 hy).1) (rises_filter p (rises_tail key h))
    · exact rises_filter p (rises_tail key h)
theorem rises_map {l : List α} (f : α → α) (hf : ∀ x, key (f x) = key x) (h : Rises key l) : Rises key (l.map f) := by
  induction l with
  | nil => trivial
  | cons x l ih =>
    refine rises_cons key (fun y hy => ?_) (ih (rises_tail key h))
    obtain ⟨z, hz, rfl⟩ := List.mem_map.1 hy
    rw [hf, hf]
    exact rises_head key h z hz
theorem rises_get : ∀ {l : List α}, Rises key l → ∀ (i j : Nat) (hj : j < l.length) (hij : i < j), key (l[i]'(Nat.lt_trans hij hj)) < key l[j]
  | x :: l, h, 0, j + 1, hj, _ => rises_head key h _ (List.getElem_mem (by simpa using hj))
  | x :: l, h, i + 1, j + 1, hj, hij => by
    have := rises_get (rises_tail key h) i j (by simpa using hj) (by omega)
    simpa using this
def lowB (k : Int) : List α → Nat
  | [] => 0
  | x :: l => if key x < k then lowB k l + 1 else 0
theorem lowB_le (k : Int) : ∀ l : List α, lowB key k l ≤ l.length
  | [] => Nat.le_refl _
  | x :: l => by
    unfold lowB
    split
    · have := lowB_le k l
      simpa using this
    · simp
theorem lowB_lt (k : Int) : ∀ (l : List α) (j : Nat) (hj : j < l.length), j < lowB key k l → key l[j] < k
  | x :: l, 0, hj, h => by
    unfold lowB at h
    split at h
    · assumption
    · omega
  | x :: l, j + 1, hj, h => by
    unfold lowB at h
    split at h
    · have := lowB_lt k l j (by simpa using hj) (by omega)
      simpa using this
    · omega
theorem lowB_ge (k : Int) : ∀ {l : List α}, Rises key l → ∀ (j : Nat) (hj : j < l.length), lowB key k l ≤ j → k ≤ key l[j]
  | x :: l, hr, 0, hj, h => by
    unfold lowB at h
    split at h
    · omega
    · simp only [List.getElem_cons_zero]; omega
  | x :: l, hr, j + 1, hj, h => by
    unfold lowB at h
    split at h
    · have := lowB_ge k (rises_tail key hr) j (by simpa using hj) (by omega)
      simpa using this
    · have hj' : j < l.length := by simpa using hj
      have := rises_head key hr l[j] (List.getElem_mem hj')
      simp only [List.getElem_cons_succ]
      omega
theorem lowB_of {k : Int} {l : List α} (hr : Rises key l) (i : Nat) (hi : i ≤ l.length) (h1 : ∀ j (hj : j < l.length), j < i → key l[j] < k) (h2 : ∀ j (hj : j < l.length), i ≤ j → k ≤ key l[j]) : lowB key k l = i := by
  have h0 := lowB_le key k l
  rcases Nat.lt_trichotomy (lowB key k l) i with h | h | h
  · have a := lowB_ge key k hr (lowB key k l) (by omega) (Nat.le_refl _)
    have b := h1 (lowB key k l) (by omega) h
    omega
  · exact h
  · have a := lowB_lt key k l i (by omega) h
    have b := h2 i (by omega) (Nat.le_refl _)
    omega
theorem take_lowB (k : Int) : ∀ l : List α, ∀ x ∈ l.take (lowB key k l), key x < k
  | [], x, h => by simp at h
  | y :: l, x, h => by
    unfold lowB at h
    split at h
    · rw [List.take_succ_cons] at h
      rcases List.mem_cons.1 h with rfl | h
      · assumption
      · exact take_lowB k l x h
    · simp at h
theorem drop_lowB (k : Int) : ∀ {l : List α}, Rises key l → ∀ x ∈ l.drop (lowB key k l), k ≤ key x
  | [], _, x, h => by simp at h
  | y :: l, hr, x, h => by
    unfold lowB at h
    split at h
    · rw [List.drop_succ_cons] at h
      exact drop_lowB k (rises_tail key hr) x h
    · rw [List.drop_zero] at h
      rcases List.mem_cons.1 h with rfl | h
      · omega
      · have := rises_head key hr x h
        omega
def has (k : Int) (l : List α) : Bool := l.any (fun x => decide (key x = k))
theorem has_lowB {k : Int} {l : List α} (hr : Rises key l) : has key k l = (match l[lowB key k l]? with | some x => decide (key x = k) | none => false) := by
  by_cases hlt : lowB key k l < l.length
  · rw [List.getElem?_eq_getElem hlt]
    dsimp only
    have hge := lowB_ge key k hr _ hlt (Nat.le_refl _)
    by_cases he : key l[lowB key k l] = k
    · rw [decide_eq_true he]
      exact List.any_eq_true.2 ⟨_, List.getElem_mem hlt, decide_eq_true he⟩
    rw [decide_eq_false he]
    refine List.any_eq_false.2 (fun x hx => ?_)
    obtain ⟨j, hj, rfl⟩ := List.getElem_of_mem hx
    rcases Nat.lt_or_ge j (lowB key k l) with h | h
    · have := lowB_lt key k l j hj h
      simp; omega
    · rcases Nat.lt_or_eq_of_le h with h | h
      · have := rises_get key hr _ j hj h
        simp; omega
      · subst h
        simpa using he
  rw [List.getElem?_eq_none (by omega)]
  dsimp only
  refine List.any_eq_false.2 (fun x hx => ?_)
  obtain ⟨j, hj, rfl⟩ := List.getElem_of_mem hx
  have := lowB_lt key k l j hj (by omega)
  simp; omega
def look (a : Int) : List α → Int
  | [] => 0
  | x :: l => if key x = a then val x else look a l
theorem look_none {a : Int} : ∀ {l : List α}, (∀ x ∈ l, key x ≠ a) → look key val a l = 0
  | [], _ => rfl
  | x :: l, h => by
    unfold look
    rw [if_neg (h x List.mem_cons_self), look_none (fun y hy => h y (List.mem_cons_of_mem _ hy))]
theorem look_mem {l : List α} (hr : Rises key l) {x : α} (hx : x ∈ l) : look key val (key x) l = val x := by
  induction l with
  | nil => simp at hx
  | cons y l ih =>
    unfold look
    rcases List.mem_cons.1 hx with rfl | hx
    · exact if_pos rfl
    · have := rises_head key hr x hx
      rw [if_neg (by omega), ih (rises_tail key hr) hx]
theorem look_append (a : Int) (l m : List α) (h : ∀ x ∈ l, key x ≠ a) : look key val a (l ++ m) = look key val a m := by
  induction l with
  | nil => rfl
  | cons y l ih =>
    rw [List.cons_append]
    conv => lhs; unfold look
    rw [if_neg (h y List.mem_cons_self)]
    exact ih (fun x hx => h x (List.mem_cons_of_mem _ hx))
theorem look_lowB {k : Int} {l : List α} (hr : Rises key l) : look key val k l = (match l[lowB key k l]? with | some x => if key x = k then val x else 0 | none => 0) := by
  have hd := List.take_append_drop (lowB key k l) l
  have e : look key val k l = look key val k (l.drop (lowB key k l)) := by
    conv => lhs; rw [← hd]
    exact look_append key val k _ _ (fun x hx => by have := take_lowB key k l x hx; omega)
  rw [e]
  by_cases hlt : lowB key k l < l.length
  · rw [List.getElem?_eq_getElem hlt, List.drop_eq_getElem_cons hlt]
    unfold look
    dsimp only
    split
    · rfl
    · refine look_none key val (fun x hx => ?_)
      have h1 := drop_lowB key k hr l[lowB key k l] (by rw [List.drop_eq_getElem_cons hlt]; exact List.mem_cons_self)
      have h2 : Rises key (l.drop (lowB key k l)) := by
        rw [← hd] at hr
        exact rises_right key hr
      rw [List.drop_eq_getElem_cons hlt] at h2
      have := rises_head key h2 x hx
      omega
  rw [List.getElem?_eq_none (by omega), List.drop_eq_nil_of_le (by omega)]
  rfl
end
end Go.Proofs.Ytgkjdpdmmlalcaa.F
end
section
namespace Go.Proofs.Ytgkjdpdmmlalcaa.F
open Go.RowKit Go.Shelf Go.Proofs.YtgkjdpdmmlalcaaW.PrintWords Go.Proofs.YtgkjdpdmmlalcaaW.PrintLast Go.Proofs.YtgkjdpdmmlalcaaW.PrintMore
set_option linter.unusedVariables false
set_option linter.unusedSimpArgs false
def cmpI (a b : Int) : Int := if a < b then -1 else if b < a then 1 else 0
theorem cmpI_neg {a b : Int} (h : cmpI a b < 0) : a < b := by
  unfold cmpI at h
  split at h
  · assumption
  · split at h <;> omega
theorem cmpI_pos {a b : Int} (h : ¬ cmpI a b < 0) : b ≤ a := by
  unfold cmpI at h
  split at h
  · omega
  · omega
theorem cmpI_zero (a b : Int) : decide (cmpI a b = 0) = decide (a = b) := by
  unfold cmpI
  rcases Int.lt_trichotomy a b with h | h | h
  · rw [if_pos h, decide_eq_false (by omega), decide_eq_false (by omega)]
  · subst h
    simp
  · rw [if_neg (by omega), if_pos h, decide_eq_false (by omega), decide_eq_false (by omega)]
def risesB {α : Type} (key : α → Int) : List α → Bool
  | [] => true
  | [_] => true
  | x :: y :: l => decide (key x < key y) && risesB key (y :: l)
theorem risesB_iff {α : Type} {key : α → Int} : ∀ (l : List α), risesB key l = true ↔ Rises key l
  | [] => ⟨fun _ => trivial, fun _ => rfl⟩
  | [_] => ⟨fun _ => trivial, fun _ => rfl⟩
  | x :: y :: l => by
    unfold risesB Rises
    rw [Bool.and_eq_true, decide_eq_true_eq, risesB_iff (y :: l)]
theorem cmp64_nan.calls (a : Int) (w : World) : Calls Try.prog 169 #[.int .u64 a] w fun e w' => e = .returned (.bool false) ∧ w' = w := by
  go_enter Try.func169, Try.ntmps169
  go_wp2
  go_ret
  exact ⟨by simp, rfl⟩
set_option maxHeartbeats 4000000 in
theorem cmp64.calls (a b : Int) (w : World) : Calls Try.prog 161 #[.int .u64 a, .int .u64 b] w fun e w' => e = .returned (.int .i64 (cmpI a b)) ∧ w' = w := by
  have NN := Lib.hid cmp64_nan.calls
  rcases Int.lt_trichotomy a b with h | h | h
  · have e : cmpI a b = -1 := if_pos h
    rw [e]
    clear e
    go_enter Try.func161, Try.ntmps161
    go_wp2_with (go_at_call 169; (with_reducible refine (NN.out _ _).mono ?_); rintro e w1 ⟨rfl, rfl⟩)
    go_ret
    exact ⟨rfl, rfl⟩
  · subst h
    have e : cmpI a a = 0 := by simp [cmpI]
    rw [e]
    clear e
    go_enter Try.func161, Try.ntmps161
    go_wp2_with (go_at_call 169; (with_reducible refine (NN.out _ _).mono ?_); rintro e w1 ⟨rfl, rfl⟩)
    go_ret
    exact ⟨rfl, rfl⟩
  · have e : cmpI a b = 1 := by unfold cmpI; rw [if_neg (by omega), if_pos h]
    rw [e]
    clear e
    go_enter Try.func161, Try.ntmps161
    go_wp2_with (go_at_call 169; (with_reducible refine (NN.out _ _).mono ?_); rintro e w1 ⟨rfl, rfl⟩)
    go_ret
    exact ⟨rfl, rfl⟩
abbrev mpK (x : S83) : Int := x.f0
theorem mp_read {l : List S83} {k : Nat} (h : k < l.length) : rd_T83 l (k : Int) = l[k] := by
  unfold rd_T83
  simp [h]
set_option maxHeartbeats 4000000 in
theorem map_key.calls (x : S83) (w : World) : Calls Try.prog 152 #[.agg #[.int .u64 x.f0, .int .i64 x.f1]] w fun e w' => e = .returned (.int .u64 x.f0) ∧ Below w.heap.size w w' := by
  have TB := Lib.hid ((Below.refl _ w).alloc (Nat.le_refl _) (.cells #[.int .u64 x.f0, .int .i64 x.f1] 83))
  go_enter Try.func152, Try.ntmps152
  go_wp2
  go_ret
  exact ⟨rfl, TB.out⟩
set_option maxHeartbeats 4000000 in
theorem mp_place1.calls (g b : Nat) (HG : ∀ (x : S83) (w : World), Calls Try.prog g #[.agg #[.int .u64 x.f0, .int .i64 x.f1]] w fun e w' => e = .returned (.int .u64 x.f0) ∧ Below w.heap.size w w') (eg : ∀ args w, (callFunc g args).run Try.prog w = .ok (.enter g args) w) (x : S83) (key : Int) (w : World) (hc : w.cell? ⟨b, 0, none⟩ = some (.func (.func g) #[] #[])) (hb : b < w.heap.size) :
    Calls Try.prog 166 #[.agg #[.int .u64 x.f0, .int .i64 x.f1], .int .u64 key, .pointer (some ⟨b, 0, none⟩)] w fun e w' => e = .returned (.int .i64 (cmpI x.f0 key)) ∧ Below w.heap.size w w' := by
  have HB0 : Below w.heap.size w (w.alloc (.cells #[.int .u64 x.f0, .int .i64 x.f1] 83)) := (Below.refl _ w).alloc (Nat.le_refl _) _
  have hc1 : (w.alloc (.cells #[.int .u64 x.f0, .int .i64 x.f1] 83)).cell? ⟨b, 0, none⟩ = some (.func (.func g) #[] #[]) := (HB0.cell (p := ⟨b, 0, none⟩) hb).trans hc
  have HC := Lib.hid cmp64.calls
  have HG' := Lib.hid (HG x (w.alloc (.cells #[.int .u64 x.f0, .int .i64 x.f1] 83)))
  have TB := Lib.hid HB0
  have hu := Try.underlying83
  clear hc HB0 HG
  go_enter Try.func166, Try.ntmps166
  go_wp2_with (first | (go_at_fn g; (with_reducible refine HG'.out.mono ?_); rintro e w1 ⟨rfl, hb1⟩; have B1 := Lib.hid hb1; clear hb1) | (go_at_call 161; (with_reducible refine (HC.out _ _ _).mono ?_); rintro e w2 ⟨rfl, rfl⟩))
  go_ret
  exact ⟨rfl, TB.out.trans (B1.out.mono TB.out.size)⟩
set_option maxHeartbeats 8000000 in
set_option maxRecDepth 100000 in
theorem mp_bsf.calls (g b : Nat) (HG : ∀ (x : S83) (w : World), Calls Try.prog g #[.agg #[.int .u64 x.f0, .int .i64 x.f1]] w fun e w' => e = .returned (.int .u64 x.f0) ∧ Below w.heap.size w w') (eg : ∀ args w, (callFunc g args).run Try.prog w = .ok (.enter g args) w) (A : Option Addr) (c : Nat) (l : List S83) (key : Int) (w : World) (hcb : w.cell? ⟨b, 0, none⟩ = some (.func (.func g) #[] #[])) (hb : b < w.heap.size) (hr : Kd.C k83 w A l.length l) (hc : l.length ≤ c) (hl : l.length ≤ 1000000) (hs : Rises mpK l) :
    Calls Try.prog 165 #[.slice A l.length c, .int .u64 key, .func (.func 166) #[] #[.pointer (some ⟨b, 0, none⟩)]] w fun e w' => e = .returned (.tuple #[.int .i64 (lowB mpK key l : Nat), .bool (has mpK key l)]) ∧ Below w.heap.size w w' := by
  have CL := Lib.hid (fun x W hB => mp_place1.calls g b HG eg x key W ((Below.cell hB (p := ⟨b, 0, none⟩) hb).trans hcb) (Nat.lt_of_lt_of_le hb (Below.size hB)))
  clear HG eg
  have HS := Lib.hid hs
  have HR := Lib.hid hr
  have hlo : lowB mpK key l = lowB mpK key l := rfl
  generalize hN : lowB mpK key l = N at hlo ⊢
  have EN := Lib.hid hN
  generalize hH : has mpK key l = H at ⊢
  have EH := Lib.hid hH
  clear hN hH hlo hs hr
  go_enter Try.func165, Try.ntmps165
  go_wp2
  go_loopw [9, 10] (fun t9 t10 wr => ∃ lo hi : Nat, t9 = .int .i64 lo ∧ t10 = .int .i64 hi ∧ lo ≤ hi ∧ hi ≤ l.length ∧ Hid ((∀ j (hj : j < l.length), j < lo → mpK l[j] < key) ∧ (∀ j (hj : j < l.length), hi ≤ j → key ≤ mpK l[j])) ∧ Hid (Below w.heap.size w wr)) (fun t9 t10 _ => (intOf t10 - intOf t9).toNat)
  case atStart => exact ⟨0, l.length, rfl, rfl, Nat.zero_le _, Nat.le_refl _, Lib.hid ⟨fun j _ h => absurd h (Nat.not_lt_zero _), fun j hj h => absurd hj (Nat.not_lt.2 h)⟩, Lib.hid (Below.refl _ _)⟩
  case round =>
    obtain ⟨lo, hi, rfl, rfl, hlh, hil, I, hB⟩ := hrel
    by_cases hlt : lo < hi
    · have hm : (lo + hi) / 2 < l.length := by omega
      have hm1 : lo ≤ (lo + hi) / 2 := by omega
      have hm2 : (lo + hi) / 2 < hi := by omega
      obtain ⟨ad, rfl, c0, c1⟩ := at_T83 (Kd.C_below HR.out hB.out) (((lo + hi) / 2 : Nat) : Int) (by omega) (by omega)
      rw [mp_read hm, Int.toNat_natCast] at c0 c1
      generalize hx : l[(lo + hi) / 2] = x at c0 c1
      have EX := Lib.hid hx
      clear hx
      by_cases hcmp : cmpI x.f0 key < 0
      · go_wp2_with (go_at_call 166; (with_reducible refine (CL.out x _ hB.out).mono ?_); rintro ex w2 ⟨rfl, hb2⟩)
        refine ⟨⟨(lo + hi) / 2 + 1, hi, by go_num, rfl, by omega, hil, Lib.hid ⟨fun j hj hjl => ?_, I.out.2⟩, Lib.hid (hB.out.trans (hb2.mono hB.out.size))⟩, by simp [intOf]; omega⟩
        have hlt' := cmpI_neg hcmp
        rcases Nat.lt_or_ge j ((lo + hi) / 2) with h | h
        · have := rises_get mpK HS.out j _ hm h
          rw [EX.out] at this
          exact Int.lt_trans this hlt'
        · obtain rfl : j = (lo + hi) / 2 := by omega
          rw [EX.out]
          exact hlt'
      have HGE := Lib.hid (cmpI_pos hcmp)
      go_wp2_with (go_at_call 166; (with_reducible refine (CL.out x _ hB.out).mono ?_); rintro ex w2 ⟨rfl, hb2⟩)
      refine ⟨⟨lo, (lo + hi) / 2, rfl, rfl, hm1, by omega, Lib.hid ⟨I.out.1, fun j hj hjl => ?_⟩, Lib.hid (hB.out.trans (hb2.mono hB.out.size))⟩, by simp [intOf]; omega⟩
      have hge' := HGE.out
      rcases Nat.lt_or_eq_of_le hjl with h | h
      · have := rises_get mpK HS.out _ j hj h
        rw [EX.out] at this
        exact Int.le_of_lt (Int.lt_of_le_of_lt hge' this)
      · subst h
        rw [EX.out]
        exact hge'
    obtain rfl : hi = lo := by omega
    have hn := lowB_of mpK HS.out hi hil I.out.1 I.out.2
    rw [EN.out] at hn
    subst hn
    have hh := has_lowB mpK (k := key) HS.out
    rw [EH.out, EN.out] at hh
    by_cases hlt2 : N < l.length
    · obtain ⟨ad, rfl, c0, c1⟩ := at_T83 (Kd.C_below HR.out hB.out) (N : Int) (by omega) (by omega)
      rw [mp_read hlt2, Int.toNat_natCast] at c0 c1
      rw [List.getElem?_eq_getElem hlt2] at hh
      generalize l[N] = x at c0 c1 hh
      dsimp only at hh
      rw [← cmpI_zero] at hh
      generalize hq : cmpI x.f0 key = q at hh
      have EQ := Lib.hid hq
      have CL2 := Lib.hid (CL.out x _ hB.out)
      rw [hq] at CL2
      clear hq CL
      subst hh
      by_cases hz : q = 0
      · subst hz
        go_wp2_with (go_at_call 166; (with_reducible refine CL2.out.mono ?_); rintro ex w2 ⟨rfl, hb2⟩)
        go_ret2
        exact ⟨by simp, hB.out.trans (hb2.mono hB.out.size)⟩
      have hz1 : (q == 0) = false := beq_eq_false_iff_ne.2 hz
      go_wp2_with (go_at_call 166; (with_reducible refine CL2.out.mono ?_); rintro ex w2 ⟨rfl, hb2⟩)
      go_ret2
      exact ⟨by simp [hz], hB.out.trans (hb2.mono hB.out.size)⟩
    rw [List.getElem?_eq_none (by omega)] at hh
    dsimp only at hh
    subst hh
    go_wp2
    go_ret2
    exact ⟨rfl, hB.out⟩
set_option maxHeartbeats 4000000 in
theorem mp_place.calls (g : Nat) (HG : ∀ (x : S83) (w : World), Calls Try.prog g #[.agg #[.int .u64 x.f0, .int .i64 x.f1]] w fun e w' => e = .returned (.int .u64 x.f0) ∧ Below w.heap.size w w') (eg : ∀ args w, (callFunc g args).run Try.prog w = .ok (.enter g args) w) (A : Option Addr) (c : Nat) (l : List S83) (key : Int) (w : World) (hr : Kd.C k83 w A l.length l) (hc : l.length ≤ c) (hl : l.length ≤ 1000000) (hs : Rises mpK l) :
    Calls Try.prog 151 #[.slice A l.length c, .int .u64 key, .func (.func g) #[] #[]] w fun e w' => e = .returned (.tuple #[.int .i64 (lowB mpK key l : Nat), .bool (has mpK key l)]) ∧ Below w.heap.size w w' := by
  have TB0 : Below w.heap.size w (w.alloc (.cells #[.func (.func g) #[] #[]] 190)) := (Below.refl _ w).alloc (Nat.le_refl _) _
  have BS := Lib.hid (mp_bsf.calls g w.heap.size HG eg A c l key (w.alloc (.cells #[.func (.func g) #[] #[]] 190)) (World.cell?_alloc_at (w := w) #[.func (.func g) #[] #[]] 190 w.heap.size 0 rfl) (by rw [World.size_alloc]; omega) (Kd.C_below hr TB0) hc hl hs)
  have TB := Lib.hid TB0
  clear hs hr HG eg TB0
  go_enter Try.func151, Try.ntmps151
  go_wp2_with (go_at_call 165; (with_reducible refine BS.out.mono ?_); rintro ex w2 ⟨rfl, hb2⟩; have B2 := Lib.hid (TB.out.trans (hb2.mono TB.out.size)); clear hb2)
  go_ret2
  exact ⟨rfl, B2.out⟩
-- HAND fn=ferry/host.mapAt ; rounds=0 ; making=1 ; laid=0
def host_mapAt.f (l0_0 : List S83) (l0_1 : List S88) (a1 : Int) : Option (Int × Bool) := if l0_0.length ≤ 1000000 ∧ risesB mpK l0_0 = true then some ((lowB mpK a1 l0_0 : Nat), has mpK a1 l0_0) else none
set_option maxHeartbeats 4000000 in
theorem host_mapAt.calls (A0_0 : Option Addr) (c0_0 : Nat) (l0_0 : List S83) (A0_1 : Option Addr) (c0_1 : Nat) (l0_1 : List S88) (a1 : Int) (r1 : Int) (r2 : Bool) (w : World) (hr0_0 : Kd.C k83 w A0_0 l0_0.length l0_0) (hc0_0 : l0_0.length ≤ c0_0) (hr0_1 : Kd.C k88 w A0_1 l0_1.length l0_1) (hc0_1 : l0_1.length ≤ c0_1) (h : host_mapAt.f l0_0 l0_1 a1 = some (r1, r2)) :
    Calls Try.prog 126 #[.agg #[.slice A0_0 l0_0.length c0_0, .slice A0_1 l0_1.length c0_1], .int .u64 a1] w fun e w' => e = .returned (.tuple #[.int .i64 r1, .bool r2]) ∧ Below w.heap.size w w' := by
  unfold host_mapAt.f at h
  split at h
  · rename_i hh
    obtain ⟨rfl, rfl⟩ := Prod.mk.inj (Option.some.inj h)
    have TB0 : Below w.heap.size w (w.alloc (.cells #[.slice A0_0 l0_0.length c0_0, .slice A0_1 l0_1.length c0_1] 25)) := (Below.refl _ w).alloc (Nat.le_refl _) _
    have PL := Lib.hid (mp_place.calls 152 map_key.calls (fun _ _ => by kernel_rfl) A0_0 c0_0 l0_0 a1 _ (Kd.C_below hr0_0 TB0) hc0_0 hh.1 ((risesB_iff _).1 hh.2))
    have TB := Lib.hid TB0
    clear hh h TB0 hr0_0 hr0_1
    go_enter Try.func126, Try.ntmps126
    go_wp2_with (go_at_call 151; (with_reducible refine PL.out.mono ?_); rintro ex w2 ⟨rfl, hb2⟩; have B2 := Lib.hid (TB.out.trans (hb2.mono TB.out.size)); clear hb2)
    go_ret2
    exact ⟨rfl, B2.out⟩
  · cases h
abbrev clK (x : S88) : Int := x.f0
end Go.Proofs.Ytgkjdpdmmlalcaa.F
end
section
namespace Go.Proofs.Ytgkjdpdmmlalcaa.F
open Go.RowKit Go.Shelf Go.Proofs.YtgkjdpdmmlalcaaW.PrintWords Go.Proofs.YtgkjdpdmmlalcaaW.PrintLast Go.Proofs.YtgkjdpdmmlalcaaW.PrintMore
set_option linter.unusedVariables false
set_option linter.unusedSimpArgs false
theorem sblk_lt {W : World} {b : Nat} {o : Obj} (h : W.heap[b]? = some o) : b < W.heap.size := (Array.getElem?_eq_some_iff.1 h).1
theorem sblk_cell {W : World} {b : Nat} {cs : Array Value} {t : TypeId} {fr : Nat × Nat} (h : W.heap[b]? = some (.cells cs t fr)) (j : Nat) : W.cell? ⟨b, j, none⟩ = cs[j]? := by
  simp [World.cell?, h]
theorem sblk_free {W : World} {b : Nat} {cs : Array Value} {t : TypeId} (h : W.heap[b]? = some (.cells cs t (0, 0))) (j : Nat) : W.frozen? ⟨b, j, none⟩ = false := by
  simp [World.frozen?, h]
theorem grown_of_below {w w' : World} {r : Option Nat} (h : Below w.heap.size w w') : w.grownBy w' r := ⟨h.os, h.tape, h.output, h.size, fun k hk _ => h.block k hk⟩
theorem grown_trans {w w1 w2 : World} {r : Option Nat} (h : w.grownBy w1 r) (h2 : w1.grownBy w2 r) : w.grownBy w2 r :=
  ⟨h2.os.trans h.os, h2.tape.trans h.tape, h2.output.trans h.output, Nat.le_trans h.size h2.size, fun k hk hr => (h2.block k (Nat.lt_of_lt_of_le hk h.size) hr).trans (h.block k hk hr)⟩
theorem below_of_grown {b : Nat} {w w1 w2 : World} {g : Nat} (h : Below b w w1) (h2 : w1.grownBy w2 (some g)) (hg : b ≤ g) (hb : b ≤ w1.heap.size) : Below b w w2 :=
  h.grown h2 hb (fun k hk => by injection hk with hk; omega)
theorem grown_setCells {w : World} {g : Nat} (o : Nat) (vs : List Value) : w.grownBy (w.setCells g o vs) (some g) := by
  obtain ⟨h1, h2, h3, h4⟩ := setCells_same g vs o w
  exact ⟨h1, h2, h3, Nat.le_of_eq h4.symm, fun k _ hk => setCells_far vs o k (fun e => hk (by rw [e]))⟩
section
variable {α : Type} (en : α → List Value) (T : TypeId)
def OwnB (w : World) (g cap : Nat) (l : List α) : Prop :=
  ∃ cur, w.heap[g]? = some (.cells cur T (0, 0)) ∧ cur.size = cap * 2 ∧ cap ≤ 9223372036854775807 ∧ l.length ≤ cap ∧ cur.toList.take (l.length * 2) = l.flatMap en
variable {en T}
theorem OwnB.lt {w : World} {g cap : Nat} {l : List α} (h : OwnB en T w g cap l) : g < w.heap.size := by
  obtain ⟨_, h, _⟩ := h
  exact sblk_lt h
theorem OwnB.cap_le {w : World} {g cap : Nat} {l : List α} (h : OwnB en T w g cap l) : cap ≤ 9223372036854775807 := by
  obtain ⟨_, _, _, h, _⟩ := h
  exact h
theorem OwnB.len_le {w : World} {g cap : Nat} {l : List α} (h : OwnB en T w g cap l) : l.length ≤ cap := by
  obtain ⟨_, _, _, _, h, _⟩ := h
  exact h
theorem OwnB.move {w w' : World} {g cap : Nat} {l : List α} (h : OwnB en T w g cap l) (e : w'.heap[g]? = w.heap[g]?) : OwnB en T w' g cap l := by
  obtain ⟨cur, h0, h1⟩ := h
  exact ⟨cur, e.trans h0, h1⟩
theorem OwnB.below {w w' : World} {g cap : Nat} {l : List α} (h : OwnB en T w g cap l) (hb : Below w.heap.size w w') : OwnB en T w' g cap l := h.move (hb.block g h.lt)
theorem flat_len (h2 : ∀ x, (en x).length = 2) : ∀ l : List α, (l.flatMap en).length = l.length * 2
  | [] => rfl
  | x :: l => by
    rw [List.flatMap_cons, List.length_append, h2, flat_len h2 l, List.length_cons]
    omega
theorem flat_take (h2 : ∀ x, (en x).length = 2) : ∀ (k : Nat) (l : List α), (l.flatMap en).take (k * 2) = (l.take k).flatMap en
  | 0, l => by simp
  | k + 1, [] => by simp
  | k + 1, x :: l => by
    rw [List.flatMap_cons, List.take_succ_cons, List.flatMap_cons, List.take_append, h2, List.take_of_length_le (by rw [h2]; omega), show (k + 1) * 2 - 2 = k * 2 by omega, flat_take h2 k l]
theorem flat_drop (h2 : ∀ x, (en x).length = 2) : ∀ (k : Nat) (l : List α), (l.flatMap en).drop (k * 2) = (l.drop k).flatMap en
  | 0, l => by simp
  | k + 1, [] => by simp
  | k + 1, x :: l => by
    rw [List.flatMap_cons, List.drop_succ_cons, List.drop_append, h2, List.drop_of_length_le (by rw [h2]; omega), List.nil_append, show (k + 1) * 2 - 2 = k * 2 by omega, flat_drop h2 k l]
theorem flat_get (h2 : ∀ x, (en x).length = 2) {l : List α} {k : Nat} (hk : k < l.length) {j : Nat} (hj : j < 2) : (l.flatMap en)[k * 2 + j]? = (en l[k])[j]? := by
  rw [← List.getElem?_drop, flat_drop h2, List.drop_eq_getElem_cons hk, List.flatMap_cons, List.getElem?_append_left (by rw [h2]; exact hj)]
theorem OwnB.cell (h2 : ∀ x, (en x).length = 2) {w : World} {g cap : Nat} {l : List α} (h : OwnB en T w g cap l) {k : Nat} (hk : k < l.length) {j : Nat} (hj : j < 2) : w.cell? ⟨g, k * 2 + j, none⟩ = (en l[k])[j]? := by
  obtain ⟨cur, h0, h1, _, h3, h4⟩ := h
  rw [sblk_cell h0, ← flat_get h2 hk hj, ← h4, List.getElem?_take, if_pos (by omega), Array.getElem?_toList]
theorem OwnB.there {w : World} {g cap : Nat} {l : List α} (h : OwnB en T w g cap l) {j : Nat} (hj : j < cap * 2) : (w.cell? ⟨g, j, none⟩).isSome = true := by
  obtain ⟨cur, h0, h1, _⟩ := h
  rw [sblk_cell h0, Array.getElem?_eq_getElem (by omega)]
  rfl
theorem OwnB.free {w : World} {g cap : Nat} {l : List α} (h : OwnB en T w g cap l) (j : Nat) : w.frozen? ⟨g, j, none⟩ = false := by
  obtain ⟨cur, h0, h1, _⟩ := h
  exact sblk_free h0 j
theorem OwnB.take (h2 : ∀ x, (en x).length = 2) {w : World} {g cap : Nat} {l : List α} (h : OwnB en T w g cap l) (k : Nat) : OwnB en T w g cap (l.take k) := by
  obtain ⟨cur, h0, h1, h5, h3, h4⟩ := h
  refine ⟨cur, h0, h1, h5, by rw [List.length_take]; omega, ?_⟩
  rw [← flat_take h2, ← h4, List.take_take, List.length_take]
  congr 1
  omega
theorem OwnB.put (h2 : ∀ x, (en x).length = 2) {w : World} {g cap : Nat} {l : List α} (h : OwnB en T w g cap l) (i : Nat) (vs : List α) (hi : i ≤ l.length) (hc : i + vs.length ≤ cap) :
    OwnB en T (w.setCells g (i * 2) (vs.flatMap en)) g cap (l.take i ++ vs ++ l.drop (i + vs.length)) := by
  obtain ⟨cur, h0, h1, h5, h3, h4⟩ := h
  have hl := flat_len h2 vs
  obtain ⟨cur', a0, a1, a2⟩ := setCells_row (vs.flatMap en) (i * 2) w cur h0 (by rw [hl]; omega)
  have hlen : (l.take i ++ vs ++ l.drop (i + vs.length)).length = max l.length (i + vs.length) := by
    rw [List.length_append, List.length_append, List.length_take, List.length_drop]
    omega
  refine ⟨cur', a0, by rw [a1, h1], h5, by rw [hlen]; omega, ?_⟩
  rw [a2, hlen, hl, List.flatMap_append, List.flatMap_append]
  have e1 : cur.toList.take (i * 2) = (l.take i).flatMap en := by
    rw [← flat_take h2, ← h4, List.take_take, Nat.min_eq_left (by omega)]
  have hl1 : ((l.take i).flatMap en ++ vs.flatMap en).length = (i + vs.length) * 2 := by
    rw [List.length_append, flat_len h2, flat_len h2, List.length_take]
    omega
  rw [e1]
  by_cases hm : l.length ≤ i + vs.length
  · rw [List.drop_eq_nil_of_le hm, List.flatMap_nil, List.append_nil, Nat.max_eq_right hm, List.take_append, List.take_of_length_le (by rw [hl1]; omega), hl1, Nat.sub_self, List.take_zero, List.append_nil]
  rw [Nat.max_eq_left (by omega), List.take_append, hl1, List.take_of_length_le (by rw [hl1]; omega)]
  congr 1
  rw [← flat_drop h2 (i + vs.length) l, ← h4, List.drop_take, show (i + vs.length) * 2 = i * 2 + vs.length * 2 by omega]
theorem OwnB.behind (h2 : ∀ x, (en x).length = 2) {w : World} {g cap : Nat} {l : List α} (h : OwnB en T w g cap l) (o : Nat) (vs : List Value) (hi : l.length * 2 ≤ o) (hc : o + vs.length ≤ cap * 2) :
    OwnB en T (w.setCells g o vs) g cap l := by
  obtain ⟨cur, h0, h1, h5, h3, h4⟩ := h
  obtain ⟨cur', a0, a1, a2⟩ := setCells_row vs o w cur h0 (by omega)
  refine ⟨cur', a0, by rw [a1, h1], h5, h3, ?_⟩
  have hcl : cur.toList.length = cap * 2 := by rw [Array.length_toList, h1]
  rw [a2, List.append_assoc, List.take_append, List.take_take, Nat.min_eq_left hi, h4, List.length_take, hcl, show l.length * 2 - min o (cap * 2) = 0 by omega, List.take_zero, List.append_nil]
theorem OwnB.insert (h2 : ∀ x, (en x).length = 2) {w w1 : World} {g cap : Nat} {l : List α} (h : OwnB en T w g cap l) (i : Nat) (vs : List α) (hi : i ≤ l.length) (hc : l.length + vs.length ≤ cap)
    (hw : w1.heap[g]? = (w.setCells g ((i + vs.length) * 2) ((l.drop i).flatMap en)).heap[g]?) :
    OwnB en T (w1.setCells g (i * 2) (vs.flatMap en)) g cap (l.take i ++ vs ++ l.drop i) := by
  obtain ⟨cur, h0, h1, h5, h3, h4⟩ := h
  have hl := flat_len h2 vs
  have hd := flat_len h2 (l.drop i)
  rw [List.length_drop] at hd
  obtain ⟨cur1, a0, a1, a2⟩ := setCells_row ((l.drop i).flatMap en) ((i + vs.length) * 2) w cur h0 (by rw [hd]; omega)
  obtain ⟨cur2, b0, b1, b2⟩ := setCells_row (vs.flatMap en) (i * 2) w1 cur1 (hw.trans a0) (by rw [hl, a1]; omega)
  have hcl : cur.toList.length = cap * 2 := by rw [Array.length_toList, h1]
  have hlen : (l.take i ++ vs ++ l.drop i).length = l.length + vs.length := by
    rw [List.length_append, List.length_append, List.length_take, List.length_drop]
    omega
  refine ⟨cur2, b0, by rw [b1, a1, h1], h5, by rw [hlen]; exact hc, ?_⟩
  have e1 : cur.toList.take (i * 2) = (l.take i).flatMap en := by
    rw [← flat_take h2, ← h4, List.take_take, Nat.min_eq_left (by omega)]
  have e2 : cur1.toList.take (i * 2) = (l.take i).flatMap en := by
    rw [a2, List.append_assoc, List.take_append_of_le_length (by rw [List.length_take, hcl]; omega), List.take_take, Nat.min_eq_left (by omega), e1]
  have e3 : cur1.toList.drop (i * 2 + vs.length * 2) = (l.drop i).flatMap en ++ cur.toList.drop ((i + vs.length) * 2 + ((l.drop i).flatMap en).length) := by
    rw [a2, List.append_assoc, show i * 2 + vs.length * 2 = (i + vs.length) * 2 by omega]
    exact List.drop_left' (by rw [List.length_take, hcl]; omega)
  rw [b2, hl, e2, e3, hlen, List.flatMap_append, List.flatMap_append, ← List.append_assoc]
  exact List.take_left' (by rw [List.length_append, List.length_append, flat_len h2, hl, hd, List.length_take]; omega)
end
theorem run_clear_own {P : Program} (w : World) (t e ty : TypeId) (z : Value) (zs : List Value) (ht : P.underlying t = some (.slice e)) (hv : ∀ w, (zeroValue e).run P w = .ok z w) (b o n c : Nat) (hn : 0 < n) (hz : (Builtin.zeroCells z.cells n).toList = zs)
    (hc : ∀ j, j < zs.length → (w.cell? ⟨b, o + j, none⟩).isSome = true) (hf : ∀ j, j < zs.length → w.frozen? ⟨b, o + j, none⟩ = false) (h1 : ∀ v ∈ zs, v.oneCell' = true) :
    (Builtin.clear_ #[t] ty #[.slice (some ⟨b, o, none⟩) n c]).run P w = .ok (.tuple #[]) (w.setCells b o zs) := by
  have hst := run_storeCells_cells (P := P) b o zs 0 w (by simpa using hc) (by simpa using hf) h1
  simp only [Nat.add_zero] at hst
  obtain ⟨m, rfl⟩ : ∃ m, n = m + 1 := ⟨n - 1, by omega⟩
  simp [Builtin.clear_, run_underlying ht, hv, hz, hst]
theorem run_copy_own {P : Program} (w : World) (dT sT ty elem : TypeId) (sz b o dLen dCap : Nat) (a : Addr) (sLen sCap : Nat) (cs : List Value)
    (hu : P.underlying dT = some (.slice elem)) (hs : (P.info? elem).map (·.size) = some sz) (hn : cs.length = Nat.min sLen dLen * sz)
    (hsrc : ∀ j v, cs[j]? = some v → w.cell? (a.add j) = some v) (hc : ∀ j, j < cs.length → (w.cell? ⟨b, o + j, none⟩).isSome = true) (hf : ∀ j, j < cs.length → w.frozen? ⟨b, o + j, none⟩ = false) (h1 : ∀ v ∈ cs, v.oneCell' = true) :
    (Builtin.copy_ #[dT, sT] ty #[.slice (some ⟨b, o, none⟩) dLen dCap, .slice (some a) sLen sCap]).run P w = .ok (goInt (Nat.min sLen dLen)) (w.setCells b o cs) := by
  have hl := run_loadCells_list (P := P) w a cs hsrc
  have hst := run_storeCells_cells (P := P) b o cs 0 w (by simpa using hc) (by simpa using hf) h1
  cases hq : P.info? elem with
  | none => simp [hq] at hs
  | some i =>
    have hi : i.size = sz := by simpa [hq] using hs
    simp [Builtin.copy_, run_underlying hu, Builtin.lenOf, Builtin.firstCells, sizeOf, typeInfo, hq, hi, ← hn, hl, hst]
def sIdx {α : Type} (p : α → Bool) : List α → Int
  | [] => -1
  | x :: l => if p x then 0 else (if sIdx p l < 0 then -1 else sIdx p l + 1)
theorem sIdx_none {α : Type} (p : α → Bool) : ∀ (l : List α), (∀ x ∈ l, p x = false) → sIdx p l = -1
  | [], _ => rfl
  | x :: l, h => by
    unfold sIdx
    rw [h x List.mem_cons_self, sIdx_none p l (fun y hy => h y (List.mem_cons_of_mem _ hy))]
    rfl
theorem sIdx_at {α : Type} (p : α → Bool) : ∀ (l : List α) (k : Nat) (hk : k < l.length), (∀ j (hj : j < k), p (l[j]'(by omega)) = false) → p l[k] = true → sIdx p l = k
  | x :: l, 0, _, _, h => by
    unfold sIdx
    exact if_pos h
  | x :: l, k + 1, hk, hn, h => by
    unfold sIdx
    have h0 : p x = false := hn 0 (by omega)
    have ih := sIdx_at p l k (by simpa using hk) (fun j hj => hn (j + 1) (by omega)) h
    rw [h0, ih, if_neg (by simp), if_neg (by omega)]
    omega
theorem sIdx_any {α : Type} (p : α → Bool) : ∀ (l : List α), decide (0 ≤ sIdx p l) = l.any p
  | [] => rfl
  | x :: l => by
    have ih := sIdx_any p l
    unfold sIdx
    rw [List.any_cons]
    by_cases hp : p x = true
    · rw [if_pos hp, hp]
      rfl
    rw [if_neg hp, ← ih]
    have hp' : p x = false := by cases h : p x; rfl; exact absurd h hp
    rw [hp', Bool.false_or]
    by_cases h0 : sIdx p l < 0
    · rw [if_pos h0, decide_eq_false (by omega), decide_eq_false (by omega)]
    rw [if_neg h0, decide_eq_true (by omega), decide_eq_true (by omega)]
theorem sIdx_cases {α : Type} (p : α → Bool) : ∀ (l : List α), (sIdx p l = -1 ∧ ∀ x ∈ l, p x = false) ∨ ∃ (k : Nat) (hk : k < l.length), sIdx p l = k ∧ p l[k] = true ∧ ∀ x ∈ l.take k, p x = false
  | [] => .inl ⟨rfl, fun x hx => by simp at hx⟩
  | x :: l => by
    cases hp : p x
    · rcases sIdx_cases p l with ⟨h1, h2⟩ | ⟨k, hk, h1, h2, h3⟩
      · refine .inl ⟨by unfold sIdx; rw [hp, h1]; rfl, fun y hy => ?_⟩
        rcases List.mem_cons.1 hy with rfl | hy
        · exact hp
        · exact h2 y hy
      · refine .inr ⟨k + 1, by simpa using hk, by unfold sIdx; rw [hp, h1, if_neg (by simp), if_neg (by omega)]; omega, h2, fun y hy => ?_⟩
        rw [List.take_succ_cons] at hy
        rcases List.mem_cons.1 hy with rfl | hy
        · exact hp
        · exact h3 y hy
    · exact .inr ⟨0, by simp, by unfold sIdx; rw [hp]; rfl, hp, fun y hy => by simp at hy⟩
end Go.Proofs.Ytgkjdpdmmlalcaa.F
end
