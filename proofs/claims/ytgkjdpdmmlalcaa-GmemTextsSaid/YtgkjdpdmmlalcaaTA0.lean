import Derived.Test.YtgkjdpdmmlalcaaTZF0
section
namespace Go.Proofs.Ytgkjdpdmmlalcaa.F
open Go.RowKit Go.Proofs.YtgkjdpdmmlalcaaW.PrintWords Go.Proofs.YtgkjdpdmmlalcaaW.PrintLast Go.Proofs.YtgkjdpdmmlalcaaW.PrintMore
set_option linter.unusedVariables false
def mb_ (n k : Nat) : Array Bool := ((List.range n).map (fun i => k.testBit i)).toArray
theorem bT_ {p q : Prop} (h0 : p) (h : p → q := by (intro h0; (with_reducible repeat (first | refine blk_drewN ?_ _ | refine blk_drew ?_ | refine blk_alloc ?_ _)); exact h0)) : q := h h0
theorem bfT_ {p q : Prop} (h0 : p) (h : p → q := by (intro h0; (with_reducible repeat (first | refine blk_drewN ?_ _ | refine blk_drew ?_ | refine blk_alloc ?_ _ | refine blk_far ?_ (Aside0.out (by assumption)) _)); exact h0)) : q := h h0
theorem vT_ {p q : Prop} (h0 : p) (h : p → q := by (intro h0; (with_reducible repeat (first | apply Kd.V_alloc | apply Kd.V_drewN | apply Kd.V_drew)); exact h0)) : q := h h0
theorem rT_ {p q : Prop} (h0 : p) (h : p → q := by (intro h0; (with_reducible repeat (first | apply Kd.R_alloc | apply Kd.R_drewN | apply Kd.R_drew)); exact h0)) : q := h h0
theorem beT_ {p : Prop} (h : p := by repeat (first | (with_reducible first | exact HB.out | apply below_alloc | apply pw_below_drewN | apply below_drew1 | refine below_set ?_ (Aside0.out (by assumption))) | exact HB.out)) : p := h
theorem b2_ {w : World} {g : Nat} {t : TypeId} {a0 a1 : Value} (h : w.heap[g]? = some (.cells #[a0, a1] t (0, 0))) : w.cell? ⟨g, 0, none⟩ = some a0 ∧ w.cell? ⟨g, 1, none⟩ = some a1 ∧ w.frozen? ⟨g, 0, none⟩ = false ∧ w.frozen? ⟨g, 1, none⟩ = false := ⟨(blk_cell h 0).trans rfl, (blk_cell h 1).trans rfl, blk_frozen h 0, blk_frozen h 1⟩
theorem b4_ {w : World} {g : Nat} {t : TypeId} {a0 a1 a2 a3 : Value} (h : w.heap[g]? = some (.cells #[a0, a1, a2, a3] t (0, 0))) : w.cell? ⟨g, 0, none⟩ = some a0 ∧ w.cell? ⟨g, 1, none⟩ = some a1 ∧ w.cell? ⟨g, 2, none⟩ = some a2 ∧ w.cell? ⟨g, 3, none⟩ = some a3 ∧ w.frozen? ⟨g, 0, none⟩ = false ∧ w.frozen? ⟨g, 1, none⟩ = false ∧ w.frozen? ⟨g, 2, none⟩ = false ∧ w.frozen? ⟨g, 3, none⟩ = false := ⟨(blk_cell h 0).trans rfl, (blk_cell h 1).trans rfl, (blk_cell h 2).trans rfl, (blk_cell h 3).trans rfl, blk_frozen h 0, blk_frozen h 1, blk_frozen h 2, blk_frozen h 3⟩
theorem dT_ {p : Prop} [Decidable p] (h : decide p = true := by first | (with_reducible assumption) | assumption) : p := of_decide_eq_true h
theorem r1_ {p : Prop} (h : p := by first | rfl | (simp; done) | (simp [*]; done)) : p := h
theorem r2_ {p : Prop} (h : p := by first | omega | exact Nat.le_refl _) : p := h
theorem r3_ {p : Prop} (h : p := by first | rfl | (simp [errW_none, errW_some] <;> rfl) | (simp [*, errW_none, errW_some] <;> rfl)) : p := h
theorem aT_ {p : Prop} (h : p := by (try simp only [List.map_toArray, List.map_cons, List.map_nil]); first | done | rfl | (simp only [List.length_drop, List.length_take]; rfl)) : p := h
theorem moT_ {p : Prop} (h : p := by repeat' first | (with_reducible exact LeO.refl _) | (with_reducible exact LeO.none _) | (with_reducible apply ih0) | (with_reducible apply ih1) | (with_reducible apply ih2) | (with_reducible apply ih3) | (with_reducible apply ih4) | (with_reducible apply ih5) | (with_reducible apply ih6) | (with_reducible apply ih7) | (with_reducible apply ic0) | (with_reducible apply ic1) | (with_reducible apply ic2) | (with_reducible apply ic3) | (with_reducible apply ic4) | (with_reducible apply ic5) | (with_reducible apply ic6) | (with_reducible refine LeO.ite ?_ ?_) | (with_reducible refine LeO.bind ?_ (fun _ => ?_)) | apply ih0 | apply ih1 | apply ih2 | apply ih3 | apply ic0 | apply ic1 | apply ic2 | apply ic3 | apply ic4 | apply ic5 | apply ic6 | exact LeO.none _ | refine LeO.ite ?_ ?_ | refine LeO.bind ?_ (fun _ => ?_)) : p := h
theorem hN_ {α : Type} {a b r : α} (h : (if false = true then a else b) = r) : b = r := (if_neg (by decide)).symm.trans h
theorem hP_ {α : Type} {a b r : α} (h : (if true = true then a else b) = r) : a = r := (if_pos rfl).symm.trans h
theorem geT_ (n : Nat) {m g : Nat} (hg : g = m) (h : n ≤ m := by exact below_size beT_) : Aside0 (n ≤ g) := ⟨hg ▸ h⟩
theorem kB_ {w w1 w' : World} {g : Nat} {o : Obj} (h0 : Aside0 (w.heap[g]? = some o)) (hb : Below w1.heap.size w1 w') (h : w.heap[g]? = some o → w1.heap[g]? = some o := by (intro h0; (with_reducible repeat (first | refine blk_drewN ?_ _ | refine blk_drew ?_ | refine blk_alloc ?_ _ | refine blk_far ?_ (Aside0.out (by assumption)) _)); exact h0)) : Aside0 (w'.heap[g]? = some o) := ⟨blk_below (h h0.out) hb⟩
theorem kG_ {w w1 w' : World} {g : Nat} {o : Obj} {row : Option Nat} (h0 : w.heap[g]? = some o) (hg : w1.grownBy w' row) (hne : some g ≠ row) (h : w.heap[g]? = some o → w1.heap[g]? = some o := by (intro h0; (with_reducible repeat (first | refine blk_drewN ?_ _ | refine blk_drew ?_ | refine blk_alloc ?_ _ | refine blk_far ?_ (Aside0.out (by assumption)) _)); exact h0)) : Aside0 (w'.heap[g]? = some o) := ⟨blk_grown (h h0) hg hne⟩
theorem hB_ {w W w2 : World} (hb : Below W.heap.size W w2) (h : Below w.heap.size w W := by exact beT_) : Aside0 (Below w.heap.size w w2) := ⟨below_step h hb⟩
theorem nlT_ {w w1 : World} {g g' : Nat} {o : Obj} (h0 : w.heap[g]? = some o) (hg : g' = w1.heap.size) (h : w.heap[g]? = some o → w1.heap[g]? = some o := by (intro h0; (with_reducible repeat (first | refine blk_drewN ?_ _ | refine blk_drew ?_ | refine blk_alloc ?_ _ | refine blk_far ?_ (Aside0.out (by assumption)) _)); exact h0)) : Aside0 (g ≠ g') := ⟨hg ▸ Nat.ne_of_lt (blk_lt (h h0))⟩
theorem ngT_ {w w1 : World} {g g' : Nat} {o : Obj} (h0 : w.heap[g]? = some o) (hg : g' = w1.heap.size) (h : w.heap[g]? = some o → w1.heap[g]? = some o := by (intro h0; (with_reducible repeat (first | refine blk_drewN ?_ _ | refine blk_drew ?_ | refine blk_alloc ?_ _ | refine blk_far ?_ (Aside0.out (by assumption)) _)); exact h0)) : Aside0 (g' ≠ g) := ⟨hg ▸ Nat.ne_of_gt (blk_lt (h h0))⟩
theorem kE_ {w : World} {g : Nat} {t : TypeId} {cs cs' : Array Value} (h : w.heap[g]? = some (.cells cs t (0, 0))) (e : cs = cs') : w.heap[g]? = some (.cells cs' t (0, 0)) := e ▸ h
theorem kP_ {p q : Prop} (h0 : p) (h : p → q := by (intro h0; apply kE_; (repeat (with_reducible first | exact h0 | refine blk_drewN ?_ _ | refine blk_drew ?_ | refine blk_alloc ?_ _ | apply blk_set | apply blk_far)); all_goals (first | exact (Aside0.out (by assumption)) | rfl | (simp [*]; done)))) : q := h h0
theorem hX_ {w W : World} {a : Addr} {v : Value} (h0 : w.cell? a = some v) (h : Below w.heap.size w W := by exact HB.out) : W.cell? a = some v := (h.cell (World.block_lt_of_cell? w _ h0)).trans h0
theorem cT_ {p q : Prop} (h0 : p) (h : p → q := by (intro h0; repeat (first | exact h0 | (with_reducible refine Kd.C_alloc ?_ _) | (with_reducible refine Kd.C_drewN ?_ _) | (with_reducible refine Kd.C_drew ?_)))) : q := h h0
section
variable {α : Type} {d : Kd α} {e base g : Nat} {ok ok' : Nat → Prop} {W w1 w2 : World} {v : Value} {xs : List α} {p : Prop}
theorem vE_ (h0 : p) (hg : g = W.heap.size) (hb : Below W.heap.size W w1) (h : p → Kd.V d e W base ok v xs := by (intro h0; (with_reducible repeat (first | apply Kd.V_alloc | apply Kd.V_drewN | apply Kd.V_drew)); exact h0)) : Aside0 (Kd.V d e w1 base (fun k => ok k ∧ k ≠ g) v xs) := ⟨Kd.V_below (Kd.V_elderB (h h0) g (Nat.le_of_eq hg.symm)) hb⟩
theorem vB_ (h0 : p) (hb : Below W.heap.size W w1) (h : p → Kd.V d e W base ok v xs := by (intro h0; (with_reducible repeat (first | apply Kd.V_alloc | apply Kd.V_drewN | apply Kd.V_drew)); exact h0)) : Aside0 (Kd.V d e w1 base ok v xs) := ⟨Kd.V_below (h h0) hb⟩
theorem rE_ (h0 : p) (hg : g = W.heap.size) (hb : Below W.heap.size W w1) (h : p → Kd.R d e W base ok v xs := by (intro h0; (with_reducible repeat (first | apply Kd.R_alloc | apply Kd.R_drewN | apply Kd.R_drew)); exact h0)) : Aside0 (Kd.R d e w1 base (fun k => ok k ∧ k ≠ g) v xs) := ⟨Kd.R_below (Kd.R_elderB (h h0) g (Nat.le_of_eq hg.symm)) hb⟩
theorem rB_ (h0 : p) (hb : Below W.heap.size W w1) (h : p → Kd.R d e W base ok v xs := by (intro h0; (with_reducible repeat (first | apply Kd.R_alloc | apply Kd.R_drewN | apply Kd.R_drew)); exact h0)) : Aside0 (Kd.R d e w1 base ok v xs) := ⟨Kd.R_below (h h0) hb⟩
theorem vF_ (h0 : Kd.V d e W base ok v xs) (hm : ∀ k, ok k → k < W.heap.size → w1.heap[k]? = W.heap[k]? := by (intro k hk hl; repeat' (first | (with_reducible rfl) | (refine (Below.heap_setCell _ _ _ _ ?_).trans ?_) | (show k ≠ _; clear hl; first | exact hk.2 | exact hk.2.1 | exact hk.2.2 | exact hk.1.2 | omega | grind) | exact rfl))) (ho : ∀ k, ok k → ok' k := by (intro k hk; first | exact hk | exact hk.1 | exact hk.1.1 | exact hk.1.1.1 | exact hk.1.1.1.1 | exact trivial | grind | (have h1 : ∀ k : Nat, some k ≠ (Value.slice none 0 0).ownBlock := (by simp [Value.ownBlock]); grind))) : Kd.V d e w1 base ok' v xs := Kd.V_mono (Kd.V_step h0 hm) ho
theorem vM_ (h0 : Kd.V d e W base ok v xs) (hm : ∀ k, ok k → k < W.heap.size → w1.heap[k]? = W.heap[k]? := by (intro k hk hl; first | (with_reducible rfl) | exact rfl)) (ho : ∀ k, ok k → ok' k := by (intro k hk; first | exact hk | exact hk.1 | exact trivial | grind | (have h1 : ∀ k : Nat, some k ≠ (Value.slice none 0 0).ownBlock := (by simp [Value.ownBlock]); grind))) : Kd.V d e w1 base ok' v xs := Kd.V_mono (Kd.V_step h0 hm) ho
theorem rF_ (h0 : Kd.R d e W base ok v xs) (hm : ∀ k, ok k → k < W.heap.size → w1.heap[k]? = W.heap[k]? := by (intro k hk hl; repeat' (first | (with_reducible rfl) | (refine (Below.heap_setCell _ _ _ _ ?_).trans ?_) | (show k ≠ _; clear hl; first | exact hk.2 | exact hk.2.1 | exact hk.2.2 | exact hk.1.2 | omega | grind) | exact rfl))) (ho : ∀ k, ok k → ok' k := by (intro k hk; first | exact hk | exact hk.1 | exact hk.1.1 | exact hk.1.1.1 | exact hk.1.1.1.1 | exact trivial | grind | (have h1 : ∀ k : Nat, some k ≠ (Value.slice none 0 0).ownBlock := (by simp [Value.ownBlock]); grind))) : Kd.R d e w1 base ok' v xs := Kd.R_mono (Kd.R_step h0 hm) ho
theorem rM_ (h0 : Kd.R d e W base ok v xs) (hm : ∀ k, ok k → k < W.heap.size → w1.heap[k]? = W.heap[k]? := by (intro k hk hl; first | (with_reducible rfl) | exact rfl)) (ho : ∀ k, ok k → ok' k := by (intro k hk; first | exact hk | exact hk.1 | exact trivial | grind | (have h1 : ∀ k : Nat, some k ≠ (Value.slice none 0 0).ownBlock := (by simp [Value.ownBlock]); grind))) : Kd.R d e w1 base ok' v xs := Kd.R_mono (Kd.R_step h0 hm) ho
end
section
variable {P : Program} {ops : Array Oper} {rest : List Oper} {Q : Exit → Act → World → Prop} {a : Act} {w W : World} {oi : Oper}
theorem gL_ (N : Option Tmp) {f : FuncId} {fn : Func} {az : Array Operand} {ts : Array TypeId} (hf : P.funcs[f]? = some fn) (args : Array Value)
    (h : Calls P f args w fun e w' => ∃ v, e = .returned v ∧ wpList P ops Q rest (a.put N v) w')
    (hd : oi.dst = N := by rfl) (hg : oi.guard = none := by rfl) (hname : (fn.name == "runtime.NumGoroutine") = false := by kernel_rfl) (hb : fn.body.isSome = true := by rfl)
    (hop : oi.op = .call { callee := .value (.func f), args := az, argTypes := ts } := by rfl) (hargs : az.map a.eval = args := by exact aT_) : wpList P ops Q (oi :: rest) a w := goesL_ N hd hg hf hname hb args hop hargs h
theorem bE_ (N : Tmp) (cs : Array Value) (t : TypeId) (h : ∀ g, g = W.heap.size → ∀ w1, w1.heap[g]? = some (.cells cs t (0, 0)) → Below W.heap.size W w1 → wpList P ops Q rest (a.put oi.dst (.pointer (some ⟨g, 0, none⟩))) w1)
    (hd : oi.dst = some N := by rfl) (hg : oi.guard = none := by rfl) (hr : (execOp a.eval oi).run P W = .ok (.value (.pointer (some ⟨W.heap.size, 0, none⟩))) (W.alloc (.cells cs t (0, 0))) := by first | kernel_rfl | (go_simp; done) | (go_simp; rfl)) : wpList P ops Q (oi :: rest) a W := box_event hg hd hr h
end
section
variable {P : Program} {ops : Array Oper} {Q : Exit → Act → World → Prop} {md : Region.Mode} {S : World → Prop} {ds : List Nat}
theorem pS_ (i n_ : Nat) (l' : Array Bool) {oi : Oper} {v : Value} {fuel : Nat} {l : Array Bool} {a : Act} {w : World} {a' : Act} (h : wpAnyLast P md ops Q S ds fuel l' a' w)
    (hi : ops[i]? = some oi := by exact rfl) (hN : oi.dst = some n_ := by exact rfl) (hc : anyB md ops l l' i = true := by exact any_of HT_.out (by kernel_rfl)) (hy : Yields P ops oi v a := by (refine Or.inl ⟨by rfl, ?_⟩; intro w'; go_simp; with_reducible rfl))
    (hQ : ∀ c a w, Q (.panic c) (a.put oi.dst v) w → Q (.panic c) a w := by exact fun _ _ _ h => h) (ha : a.put (some n_) v = a' := by (simp only [Act.put, List.setIfInBounds_toArray, List.set_cons_zero, List.set_cons_succ, i64_w, i32_w]; rfl)) :
    wpAnyLast P md ops Q S ds (fuel + 1) l a w := pure_ l' hi hN hc hQ hy ha h
theorem uS_ (i n_ : Nat) (l' : Array Bool) {oi : Oper} {fuel : Nat} {l : Array Bool} {a : Act} {w : World} {a' : Act} (h : wpAnyLast P md ops Q S ds fuel l' a' w)
    (hi : ops[i]? = some oi := by exact rfl) (hN : oi.dst = some n_ := by exact rfl) (hc : anyB md ops l l' i = true := by exact any_of HT_.out (by kernel_rfl)) (hy : Yields P ops oi undef a := by exact Or.inr ⟨by rfl, rfl⟩)
    (hQ : ∀ c a w, Q (.panic c) (a.put oi.dst undef) w → Q (.panic c) a w := by exact fun _ _ _ h => h) (ha : a.put (some n_) undef = a' := by (simp only [Act.put, List.setIfInBounds_toArray, List.set_cons_zero, List.set_cons_succ, i64_w, i32_w]; rfl)) :
    wpAnyLast P md ops Q S ds (fuel + 1) l a w := pure_ l' hi hN hc hQ hy ha h
theorem nS_ {fuel : Nat} {l : Array Bool} {a a' : Act} {w : World} (h : wpAnyLast P md ops Q S ds fuel l a' w) (ha : a = a' := by (show Act.put _ _ _ = _; simp only [Act.put, List.setIfInBounds_toArray, List.set_cons_zero, List.set_cons_succ, i64_w, i32_w]; rfl)) :
    wpAnyLast P md ops Q S ds fuel l a w := norm_ ha h
theorem t2S_ (i n_ : Nat) (l' : Array Bool) {oi : Oper} {v : Value} {fuel : Nat} {l : Array Bool} {a : Act} {w : World} {a' : Act} (h : wpAnyLast P md ops Q S ds fuel l' a' w)
    (hi : ops[i]? = some oi := by exact rfl) (hN : oi.dst = some n_ := by exact rfl) (hc : takeB md ops ds l l' i = true := by exact take_ofW HT_.out HW_.out (by kernel_rfl)) (hy : YieldsIf P ops S oi v a := by (refine Or.inl ⟨by rfl, ?_⟩; rintro w' ⟨s0, s1⟩; go_simp; with_reducible rfl)) (hS : S w := by exact hHeld)
    (hQ : ∀ c a w, Q (.panic c) (a.put oi.dst v) w → Q (.panic c) a w := by exact fun _ _ _ h => h) (ha : a.put (some n_) v = a' := by (simp only [Act.put, List.setIfInBounds_toArray, List.set_cons_zero, List.set_cons_succ, i64_w, i32_w]; rfl)) :
    wpAnyLast P md ops Q S ds (fuel + 1) l a w := take_ l' hi hN hc hQ hy hS ha h
theorem t4S_ (i n_ : Nat) (l' : Array Bool) {oi : Oper} {v : Value} {fuel : Nat} {l : Array Bool} {a : Act} {w : World} {a' : Act} (h : wpAnyLast P md ops Q S ds fuel l' a' w)
    (hi : ops[i]? = some oi := by exact rfl) (hN : oi.dst = some n_ := by exact rfl) (hc : takeB md ops ds l l' i = true := by exact take_ofW HT_.out HW_.out (by kernel_rfl)) (hy : YieldsIf P ops S oi v a := by (refine Or.inl ⟨by rfl, ?_⟩; rintro w' ⟨s0, s1, s2, s3⟩; go_simp; with_reducible rfl)) (hS : S w := by exact hHeld)
    (hQ : ∀ c a w, Q (.panic c) (a.put oi.dst v) w → Q (.panic c) a w := by exact fun _ _ _ h => h) (ha : a.put (some n_) v = a' := by (simp only [Act.put, List.setIfInBounds_toArray, List.set_cons_zero, List.set_cons_succ, i64_w, i32_w]; rfl)) :
    wpAnyLast P md ops Q S ds (fuel + 1) l a w := take_ l' hi hN hc hQ hy hS ha h
theorem t5S_ (i n_ : Nat) (l' : Array Bool) {oi : Oper} {v : Value} {fuel : Nat} {l : Array Bool} {a : Act} {w : World} {a' : Act} (h : wpAnyLast P md ops Q S ds fuel l' a' w)
    (hi : ops[i]? = some oi := by exact rfl) (hN : oi.dst = some n_ := by exact rfl) (hc : takeB md ops ds l l' i = true := by exact take_ofW HT_.out HW_.out (by kernel_rfl)) (hy : YieldsIf P ops S oi v a := by (refine Or.inl ⟨by rfl, ?_⟩; rintro w' ⟨s0, s1, s2, s3, s4⟩; go_simp; with_reducible rfl)) (hS : S w := by exact hHeld)
    (hQ : ∀ c a w, Q (.panic c) (a.put oi.dst v) w → Q (.panic c) a w := by exact fun _ _ _ h => h) (ha : a.put (some n_) v = a' := by (simp only [Act.put, List.setIfInBounds_toArray, List.set_cons_zero, List.set_cons_succ, i64_w, i32_w]; rfl)) :
    wpAnyLast P md ops Q S ds (fuel + 1) l a w := take_ l' hi hN hc hQ hy hS ha h
theorem t6S_ (i n_ : Nat) (l' : Array Bool) {oi : Oper} {v : Value} {fuel : Nat} {l : Array Bool} {a : Act} {w : World} {a' : Act} (h : wpAnyLast P md ops Q S ds fuel l' a' w)
    (hi : ops[i]? = some oi := by exact rfl) (hN : oi.dst = some n_ := by exact rfl) (hc : takeB md ops ds l l' i = true := by exact take_ofW HT_.out HW_.out (by kernel_rfl)) (hy : YieldsIf P ops S oi v a := by (refine Or.inl ⟨by rfl, ?_⟩; rintro w' ⟨s0, s1, s2, s3, s4, s5⟩; go_simp; with_reducible rfl)) (hS : S w := by exact hHeld)
    (hQ : ∀ c a w, Q (.panic c) (a.put oi.dst v) w → Q (.panic c) a w := by exact fun _ _ _ h => h) (ha : a.put (some n_) v = a' := by (simp only [Act.put, List.setIfInBounds_toArray, List.set_cons_zero, List.set_cons_succ, i64_w, i32_w]; rfl)) :
    wpAnyLast P md ops Q S ds (fuel + 1) l a w := take_ l' hi hN hc hQ hy hS ha h
theorem t8S_ (i n_ : Nat) (l' : Array Bool) {oi : Oper} {v : Value} {fuel : Nat} {l : Array Bool} {a : Act} {w : World} {a' : Act} (h : wpAnyLast P md ops Q S ds fuel l' a' w)
    (hi : ops[i]? = some oi := by exact rfl) (hN : oi.dst = some n_ := by exact rfl) (hc : takeB md ops ds l l' i = true := by exact take_ofW HT_.out HW_.out (by kernel_rfl)) (hy : YieldsIf P ops S oi v a := by (refine Or.inl ⟨by rfl, ?_⟩; rintro w' ⟨s0, s1, s2, s3, s4, s5, s6, s7⟩; go_simp; with_reducible rfl)) (hS : S w := by exact hHeld)
    (hQ : ∀ c a w, Q (.panic c) (a.put oi.dst v) w → Q (.panic c) a w := by exact fun _ _ _ h => h) (ha : a.put (some n_) v = a' := by (simp only [Act.put, List.setIfInBounds_toArray, List.set_cons_zero, List.set_cons_succ, i64_w, i32_w]; rfl)) :
    wpAnyLast P md ops Q S ds (fuel + 1) l a w := take_ l' hi hN hc hQ hy hS ha h
end
end Go.Proofs.Ytgkjdpdmmlalcaa.F
end
section
namespace Go.Proofs.Ytgkjdpdmmlalcaa.F
open Go.RowKit Go.Proofs.YtgkjdpdmmlalcaaW.PrintWords Go.Proofs.YtgkjdpdmmlalcaaW.PrintLast Go.Proofs.YtgkjdpdmmlalcaaW.PrintMore
attribute [local go_sem] max2_int min2_int max_two min_two max_three min_three max_four min_four
set_option linter.unusedVariables false
set_option linter.unusedSimpArgs false

def ferryref04_Prot.l0 : Nat → Int → Int → List (S83) → List (S88) → Int → List (S41) → Option (Int)
  | 0, _, _, _, _, _, _ => none
  | k + 1, x1, x5, x102000, x102001, x102002, x102003 => if x5 < (x102003.length : Int) then (if 0 ≤ x5 then (if ((rd_T41 x102003 x5).f0) = x1 then (some ((rd_T41 x102003 x5).f1)) else (ferryref04_Prot.l0 k x1 (wrap64 (x5 + 1)) x102000 x102001 x102002 x102003)) else (none)) else (some (-1))
def ferryref04_Prot.f (k : Nat) (l0_0 : List (S83)) (l0_1 : List (S88)) (a0_2 : Int) (l0_3 : List (S41)) (a1 : Int) : Option (Int) := ferryref04_Prot.l0 k a1 0 l0_0 l0_1 a0_2 l0_3
set_option maxHeartbeats 8000000 in
set_option maxRecDepth 100000 in
theorem ferryref04_Prot.calls (k : Nat) (A0_0 : Option Addr) (c0_0 : Nat) (l0_0 : List (S83)) (A0_1 : Option Addr) (c0_1 : Nat) (l0_1 : List (S88)) (a0_2 : Int) (A0_3 : Option Addr) (c0_3 : Nat) (l0_3 : List (S41)) (a1 : Int) (r : Int) (w : World) (hr0_0 : Kd.C k83 w A0_0 l0_0.length l0_0) (hc0_0 : l0_0.length ≤ c0_0) (hr0_1 : Kd.C k88 w A0_1 l0_1.length l0_1) (hc0_1 : l0_1.length ≤ c0_1) (hr0_3 : Kd.C k41 w A0_3 l0_3.length l0_3) (hc0_3 : l0_3.length ≤ c0_3) (h : ferryref04_Prot.f k l0_0 l0_1 a0_2 l0_3 a1 = some r) :
    Calls Try.prog 30 #[.agg #[.slice A0_0 l0_0.length c0_0, .slice A0_1 l0_1.length c0_1, .int .u64 a0_2, .slice A0_3 l0_3.length c0_3], .int .u32 a1] w fun e w' => e = .returned (.int .i64 r) ∧ Below w.heap.size w w' := by
  have hu29 := Try.underlying29
  have HR0_0 := Aside0.mk hr0_0
  have HC0_0 := Aside0.mk hc0_0
  clear hr0_0 hc0_0
  have HR0_1 := Aside0.mk hr0_1
  have HC0_1 := Aside0.mk hc0_1
  clear hr0_1 hc0_1
  have HR0_3 := Aside0.mk hr0_3
  have HC0_3 := Aside0.mk hc0_3
  clear hr0_3 hc0_3
  have HB := Aside0.mk (Below.refl w.heap.size w)
  have H : (ferryref04_Prot.l0 k a1 0 l0_0 l0_1 a0_2 l0_3) = some r := h
  clear h
  have H' := Aside0.mk H
  clear H
  go_enter Try.func30, Try.ntmps30
  go_wp2_with (first | ((with_reducible refine gate_dst (N := 2) rfl ?_); refine bE_ 2 #[.slice A0_0 l0_0.length c0_0, .slice A0_1 l0_1.length c0_1, .int .u64 a0_2, .slice A0_3 l0_3.length c0_3] 29 ?_; intro gb101 hg w3 hbox hb; have BK101 := Aside0.mk hbox; have GW101 := geT_ w.heap.size hg; have GE101 := geT_ w.heap.size hg; replace HB := hB_ hb; clear hb hbox hg))
  go_loopg [5] k (fun kq v5 w' => ∃ (x5_1 : Int), v5 = .int .i64 x5_1 ∧ Aside0 (ferryref04_Prot.l0 kq a1 x5_1 l0_0 l0_1 a0_2 l0_3 = some r) ∧ Aside0 (kq ≤ k) ∧ Aside0 (w'.heap[gb101]? = some (.cells #[(.slice A0_0 l0_0.length c0_0), (.slice A0_1 l0_1.length c0_1), .int .u64 a0_2, (.slice A0_3 l0_3.length c0_3)] 29 (0, 0))) ∧ Aside0 (Below w.heap.size w w'))
  case atStart => exact ⟨(0), r1_, H', ⟨Nat.le_refl _⟩, ⟨bT_ BK101.out⟩, ⟨beT_⟩⟩
  case round =>
    clear H'
    try clear p2
    try clear c3
    obtain ⟨x5_1, rfl, HA, HK1, BK101, HB⟩ := hrel
    cases gk with
    | zero => exact absurd HA.out (by simp [ferryref04_Prot.l0])
    | succ k1 =>
      have H := HA.out
      clear HA
      simp only [ferryref04_Prot.l0] at H
      by_cases c4 : x5_1 < (l0_3.length : Int)
      · rw [if_pos c4] at H
        have c4b0 : decide (x5_1 < (l0_3.length : Int)) = true := decide_eq_true c4
        clear c4
        by_cases c5 : 0 ≤ x5_1
        · rw [if_pos c5] at H
          have c5b0 : decide (0 ≤ x5_1) = true := decide_eq_true c5
          clear c5
          by_cases c6 : ((rd_T41 l0_3 x5_1).f0) = a1
          · rw [if_pos c6] at H
            have c6b0 : (((rd_T41 l0_3 x5_1).f0) == a1) = true := beq_iff_eq.mpr c6
            have c6b1 : (((rd_T41 l0_3 x5_1).f0) != a1) = false := bne_eq_false_iff_eq.mpr c6
            clear c6
            obtain rfl := Option.some.inj H
            obtain ⟨hcz7_0, hcz7_1, hcz7_2, hcz7_3, hfz7_0, hfz7_1, hfz7_2, hfz7_3⟩ := b4_ BK101.out
            have p102 : 0 ≤ (x5_1 : Int) := dT_
            have q102 : x5_1 < (l0_3.length : Int) := dT_
            obtain ⟨ad102, e102, hx102_0, hx102_1⟩ := at_T41 HR0_3.out x5_1 p102 q102
            cases e102
            replace hx102_0 := hX_ hx102_0
            replace hx102_1 := hX_ hx102_1
            replace p102 := eq_true p102
            replace q102 := eq_true q102
            have p103 : 0 ≤ (x5_1 : Int) := dT_
            have q103 : x5_1 < (l0_3.length : Int) := dT_
            obtain ⟨ad103, e103, hx103_0, hx103_1⟩ := at_T41 HR0_3.out x5_1 p103 q103
            obtain rfl : ad102 = ad103 := (by injection e103)
            replace hx103_0 := hX_ hx103_0
            replace hx103_1 := hX_ hx103_1
            replace p103 := eq_true p103
            replace q103 := eq_true q103
            go_wp2
            go_ret
            exact ⟨r3_, beT_⟩
          rw [if_neg c6] at H
          have c6b0 : (((rd_T41 l0_3 x5_1).f0) == a1) = false := beq_eq_false_iff_ne.mpr c6
          have c6b1 : (((rd_T41 l0_3 x5_1).f0) != a1) = true := bne_iff_ne.mpr c6
          have H' := Aside0.mk H
          clear H
          obtain ⟨hcz8_0, hcz8_1, hcz8_2, hcz8_3, hfz8_0, hfz8_1, hfz8_2, hfz8_3⟩ := b4_ BK101.out
          have p102 : 0 ≤ (x5_1 : Int) := dT_
          have q102 : x5_1 < (l0_3.length : Int) := dT_
          obtain ⟨ad102, e102, hx102_0, hx102_1⟩ := at_T41 HR0_3.out x5_1 p102 q102
          cases e102
          replace hx102_0 := hX_ hx102_0
          replace hx102_1 := hX_ hx102_1
          replace p102 := eq_true p102
          replace q102 := eq_true q102
          go_wp2
          go_roundg k1
          case measure => have := HK1.out; omega
          case rel => exact ⟨(wrap64 (x5_1 + 1)), r1_, H', ⟨by have := HK1.out; omega⟩, ⟨bT_ BK101.out⟩, ⟨beT_⟩⟩
        rw [if_neg c5] at H
        exact absurd H (by simp)
      rw [if_neg c4] at H
      have c4b0 : decide (x5_1 < (l0_3.length : Int)) = false := decide_eq_false c4
      clear c4
      obtain rfl := Option.some.inj H
      obtain ⟨hcz9_0, hcz9_1, hcz9_2, hcz9_3, hfz9_0, hfz9_1, hfz9_2, hfz9_3⟩ := b4_ BK101.out
      go_wp2
      go_ret
      exact ⟨r3_, beT_⟩

end Go.Proofs.Ytgkjdpdmmlalcaa.F
end
section
namespace Go.Proofs.Ytgkjdpdmmlalcaa.F
open Go.RowKit Go.Proofs.YtgkjdpdmmlalcaaW.PrintWords Go.Proofs.YtgkjdpdmmlalcaaW.PrintLast Go.Proofs.YtgkjdpdmmlalcaaW.PrintMore
attribute [local go_sem] max2_int min2_int max_two min_two max_three min_three max_four min_four
set_option linter.unusedVariables false
set_option linter.unusedSimpArgs false

def ferryref03_Place.l0 : Nat → Int → Int → List (S83) → List (S88) → Option (Int)
  | 0, _, _, _, _ => none
  | k + 1, x1, x5, x105000, x105001 => if x5 < (x105000.length : Int) then (if 0 ≤ x5 then (if ((rd_T83 x105000 x5).f0) = x1 then (some x5) else (ferryref03_Place.l0 k x1 (wrap64 (x5 + 1)) x105000 x105001)) else (none)) else (some (-1))
def ferryref03_Place.f (k : Nat) (l0_0 : List (S83)) (l0_1 : List (S88)) (a1 : Int) : Option (Int) := ferryref03_Place.l0 k a1 0 l0_0 l0_1
set_option maxHeartbeats 8000000 in
set_option maxRecDepth 100000 in
theorem ferryref03_Place.calls (k : Nat) (A0_0 : Option Addr) (c0_0 : Nat) (l0_0 : List (S83)) (A0_1 : Option Addr) (c0_1 : Nat) (l0_1 : List (S88)) (a1 : Int) (r : Int) (w : World) (hr0_0 : Kd.C k83 w A0_0 l0_0.length l0_0) (hc0_0 : l0_0.length ≤ c0_0) (hr0_1 : Kd.C k88 w A0_1 l0_1.length l0_1) (hc0_1 : l0_1.length ≤ c0_1) (h : ferryref03_Place.f k l0_0 l0_1 a1 = some r) :
    Calls Try.prog 45 #[.agg #[.slice A0_0 l0_0.length c0_0, .slice A0_1 l0_1.length c0_1], .int .u64 a1] w fun e w' => e = .returned (.int .i64 r) ∧ Below w.heap.size w w' := by
  have hu25 := Try.underlying25
  have HR0_0 := Aside0.mk hr0_0
  have HC0_0 := Aside0.mk hc0_0
  clear hr0_0 hc0_0
  have HR0_1 := Aside0.mk hr0_1
  have HC0_1 := Aside0.mk hc0_1
  clear hr0_1 hc0_1
  have HB := Aside0.mk (Below.refl w.heap.size w)
  have H : (ferryref03_Place.l0 k a1 0 l0_0 l0_1) = some r := h
  clear h
  have H' := Aside0.mk H
  clear H
  go_enter Try.func45, Try.ntmps45
  go_wp2_with (first | ((with_reducible refine gate_dst (N := 2) rfl ?_); refine bE_ 2 #[.slice A0_0 l0_0.length c0_0, .slice A0_1 l0_1.length c0_1] 25 ?_; intro gb104 hg w3 hbox hb; have BK104 := Aside0.mk hbox; have GW104 := geT_ w.heap.size hg; have GE104 := geT_ w.heap.size hg; replace HB := hB_ hb; clear hb hbox hg))
  go_loopg [5] k (fun kq v5 w' => ∃ (x5_1 : Int), v5 = .int .i64 x5_1 ∧ Aside0 (ferryref03_Place.l0 kq a1 x5_1 l0_0 l0_1 = some r) ∧ Aside0 (kq ≤ k) ∧ Aside0 (w'.heap[gb104]? = some (.cells #[(.slice A0_0 l0_0.length c0_0), (.slice A0_1 l0_1.length c0_1)] 25 (0, 0))) ∧ Aside0 (Below w.heap.size w w'))
  case atStart => exact ⟨(0), r1_, H', ⟨Nat.le_refl _⟩, ⟨bT_ BK104.out⟩, ⟨beT_⟩⟩
  case round =>
    clear H'
    try clear p2
    obtain ⟨x5_1, rfl, HA, HK1, BK104, HB⟩ := hrel
    cases gk with
    | zero => exact absurd HA.out (by simp [ferryref03_Place.l0])
    | succ k1 =>
      have H := HA.out
      clear HA
      simp only [ferryref03_Place.l0] at H
      by_cases c4 : x5_1 < (l0_0.length : Int)
      · rw [if_pos c4] at H
        have c4b0 : decide (x5_1 < (l0_0.length : Int)) = true := decide_eq_true c4
        clear c4
        by_cases c5 : 0 ≤ x5_1
        · rw [if_pos c5] at H
          have c5b0 : decide (0 ≤ x5_1) = true := decide_eq_true c5
          clear c5
          by_cases c6 : ((rd_T83 l0_0 x5_1).f0) = a1
          · rw [if_pos c6] at H
            have c6b0 : (((rd_T83 l0_0 x5_1).f0) == a1) = true := beq_iff_eq.mpr c6
            have c6b1 : (((rd_T83 l0_0 x5_1).f0) != a1) = false := bne_eq_false_iff_eq.mpr c6
            clear c6
            obtain rfl := Option.some.inj H
            obtain ⟨hcz7_0, hcz7_1, hfz7_0, hfz7_1⟩ := b2_ BK104.out
            have p105 : 0 ≤ (x5_1 : Int) := dT_
            have q105 : x5_1 < (l0_0.length : Int) := dT_
            obtain ⟨ad105, e105, hx105_0, hx105_1⟩ := at_T83 HR0_0.out x5_1 p105 q105
            cases e105
            replace hx105_0 := hX_ hx105_0
            replace hx105_1 := hX_ hx105_1
            replace p105 := eq_true p105
            replace q105 := eq_true q105
            go_wp2
            go_ret
            exact ⟨r3_, beT_⟩
          rw [if_neg c6] at H
          have c6b0 : (((rd_T83 l0_0 x5_1).f0) == a1) = false := beq_eq_false_iff_ne.mpr c6
          have c6b1 : (((rd_T83 l0_0 x5_1).f0) != a1) = true := bne_iff_ne.mpr c6
          have H' := Aside0.mk H
          clear H
          obtain ⟨hcz8_0, hcz8_1, hfz8_0, hfz8_1⟩ := b2_ BK104.out
          have p105 : 0 ≤ (x5_1 : Int) := dT_
          have q105 : x5_1 < (l0_0.length : Int) := dT_
          obtain ⟨ad105, e105, hx105_0, hx105_1⟩ := at_T83 HR0_0.out x5_1 p105 q105
          cases e105
          replace hx105_0 := hX_ hx105_0
          replace hx105_1 := hX_ hx105_1
          replace p105 := eq_true p105
          replace q105 := eq_true q105
          go_wp2
          go_roundg k1
          case measure => have := HK1.out; omega
          case rel => exact ⟨(wrap64 (x5_1 + 1)), r1_, H', ⟨by have := HK1.out; omega⟩, ⟨bT_ BK104.out⟩, ⟨beT_⟩⟩
        rw [if_neg c5] at H
        exact absurd H (by simp)
      rw [if_neg c4] at H
      have c4b0 : decide (x5_1 < (l0_0.length : Int)) = false := decide_eq_false c4
      clear c4
      obtain rfl := Option.some.inj H
      obtain ⟨hcz9_0, hcz9_1, hfz9_0, hfz9_1⟩ := b2_ BK104.out
      go_wp2
      go_ret
      exact ⟨r3_, beT_⟩

end Go.Proofs.Ytgkjdpdmmlalcaa.F
end
section
namespace Go.Proofs.Ytgkjdpdmmlalcaa.F
open Go.RowKit Go.Proofs.YtgkjdpdmmlalcaaW.PrintWords Go.Proofs.YtgkjdpdmmlalcaaW.PrintLast Go.Proofs.YtgkjdpdmmlalcaaW.PrintMore
attribute [local go_sem] max2_int min2_int max_two min_two max_three min_three max_four min_four
set_option linter.unusedVariables false
set_option linter.unusedSimpArgs false

def ferryref04_own.f (l0_0 : List (S83)) (l0_1 : List (S88)) (a0_2 : Int) (l0_3 : List (S41)) (a1 : Int) : Option (Int × Bool) := if a1 < a0_2 then (some (0, false)) else (if (IntKind.u64.wrap (a1 - a0_2)) ≥ 4294967296 then (some (0, false)) else (some ((IntKind.u64.wrap (Int.tdiv (IntKind.u64.wrap (a1 - a0_2)) 4096)) % 4294967296, true)))
set_option maxHeartbeats 8000000 in
set_option maxRecDepth 100000 in
theorem ferryref04_own.calls (A0_0 : Option Addr) (c0_0 : Nat) (l0_0 : List (S83)) (A0_1 : Option Addr) (c0_1 : Nat) (l0_1 : List (S88)) (a0_2 : Int) (A0_3 : Option Addr) (c0_3 : Nat) (l0_3 : List (S41)) (a1 : Int) (r1 : Int) (r2 : Bool) (w : World) (hr0_0 : Kd.C k83 w A0_0 l0_0.length l0_0) (hc0_0 : l0_0.length ≤ c0_0) (hr0_1 : Kd.C k88 w A0_1 l0_1.length l0_1) (hc0_1 : l0_1.length ≤ c0_1) (hr0_3 : Kd.C k41 w A0_3 l0_3.length l0_3) (hc0_3 : l0_3.length ≤ c0_3) (h : ferryref04_own.f l0_0 l0_1 a0_2 l0_3 a1 = some (r1, r2)) :
    Calls Try.prog 46 #[.agg #[.slice A0_0 l0_0.length c0_0, .slice A0_1 l0_1.length c0_1, .int .u64 a0_2, .slice A0_3 l0_3.length c0_3], .int .u64 a1] w fun e w' => e = .returned (.tuple #[.int .u32 r1, .bool r2]) ∧ Below w.heap.size w w' := by
  have hu29 := Try.underlying29
  have HR0_0 := Aside0.mk hr0_0
  have HC0_0 := Aside0.mk hc0_0
  clear hr0_0 hc0_0
  have HR0_1 := Aside0.mk hr0_1
  have HC0_1 := Aside0.mk hc0_1
  clear hr0_1 hc0_1
  have HR0_3 := Aside0.mk hr0_3
  have HC0_3 := Aside0.mk hc0_3
  clear hr0_3 hc0_3
  have HB := Aside0.mk (Below.refl w.heap.size w)
  have H : (if a1 < a0_2 then (some (0, false)) else (if (IntKind.u64.wrap (a1 - a0_2)) ≥ 4294967296 then (some (0, false)) else (some ((IntKind.u64.wrap (Int.tdiv (IntKind.u64.wrap (a1 - a0_2)) 4096)) % 4294967296, true)))) = some (r1, r2) := h
  clear h
  by_cases c3 : a1 < a0_2
  · rw [if_pos c3] at H
    have c3b0 : decide (a1 < a0_2) = true := decide_eq_true c3
    clear c3
    simp only [Option.some.injEq, Prod.mk.injEq] at H
    obtain ⟨rfl, rfl⟩ := H
    go_enter Try.func46, Try.ntmps46
    go_wp2_with (first | ((with_reducible refine gate_dst (N := 2) rfl ?_); refine bE_ 2 #[.slice A0_0 l0_0.length c0_0, .slice A0_1 l0_1.length c0_1, .int .u64 a0_2, .slice A0_3 l0_3.length c0_3] 29 ?_; intro gb106 hg w4 hbox hb; have BK106 := Aside0.mk hbox; have GW106 := geT_ w.heap.size hg; have GE106 := geT_ w.heap.size hg; replace HB := hB_ hb; clear hb hbox hg; obtain ⟨hcz5_0, hcz5_1, hcz5_2, hcz5_3, hfz5_0, hfz5_1, hfz5_2, hfz5_3⟩ := b4_ BK106.out))
    go_ret2
    exact ⟨r3_, beT_⟩
  rw [if_neg c3] at H
  have c3b0 : decide (a1 < a0_2) = false := decide_eq_false c3
  clear c3
  by_cases c6 : (IntKind.u64.wrap (a1 - a0_2)) ≥ 4294967296
  · rw [if_pos c6] at H
    have c6b0 : decide (4294967296 ≤ (IntKind.u64.wrap (a1 - a0_2))) = true := decide_eq_true c6
    clear c6
    simp only [Option.some.injEq, Prod.mk.injEq] at H
    obtain ⟨rfl, rfl⟩ := H
    go_enter Try.func46, Try.ntmps46
    go_wp2_with (first | ((with_reducible refine gate_dst (N := 2) rfl ?_); refine bE_ 2 #[.slice A0_0 l0_0.length c0_0, .slice A0_1 l0_1.length c0_1, .int .u64 a0_2, .slice A0_3 l0_3.length c0_3] 29 ?_; intro gb106 hg w7 hbox hb; have BK106 := Aside0.mk hbox; have GW106 := geT_ w.heap.size hg; have GE106 := geT_ w.heap.size hg; replace HB := hB_ hb; clear hb hbox hg; obtain ⟨hcz8_0, hcz8_1, hcz8_2, hcz8_3, hfz8_0, hfz8_1, hfz8_2, hfz8_3⟩ := b4_ BK106.out))
    go_ret2
    exact ⟨r3_, beT_⟩
  rw [if_neg c6] at H
  have c6b0 : decide (4294967296 ≤ (IntKind.u64.wrap (a1 - a0_2))) = false := decide_eq_false c6
  clear c6
  simp only [Option.some.injEq, Prod.mk.injEq] at H
  obtain ⟨rfl, rfl⟩ := H
  go_enter Try.func46, Try.ntmps46
  go_wp2_with (first | ((with_reducible refine gate_dst (N := 2) rfl ?_); refine bE_ 2 #[.slice A0_0 l0_0.length c0_0, .slice A0_1 l0_1.length c0_1, .int .u64 a0_2, .slice A0_3 l0_3.length c0_3] 29 ?_; intro gb106 hg w9 hbox hb; have BK106 := Aside0.mk hbox; have GW106 := geT_ w.heap.size hg; have GE106 := geT_ w.heap.size hg; replace HB := hB_ hb; clear hb hbox hg; obtain ⟨hcz10_0, hcz10_1, hcz10_2, hcz10_3, hfz10_0, hfz10_1, hfz10_2, hfz10_3⟩ := b4_ BK106.out))
  go_ret2
  exact ⟨r3_, beT_⟩

end Go.Proofs.Ytgkjdpdmmlalcaa.F
end
section
namespace Go.Proofs.Ytgkjdpdmmlalcaa.F
open Go.RowKit Go.Proofs.YtgkjdpdmmlalcaaW.PrintWords Go.Proofs.YtgkjdpdmmlalcaaW.PrintLast Go.Proofs.YtgkjdpdmmlalcaaW.PrintMore
attribute [local go_sem] max2_int min2_int max_two min_two max_three min_three max_four min_four
set_option linter.unusedVariables false
set_option linter.unusedSimpArgs false

def ferryref04_used.l0 : Nat → Int → Int → List (S83) → List (S88) → Int → List (S41) → Option (Bool)
  | 0, _, _, _, _, _, _ => none
  | k + 1, x1, x5, x108000, x108001, x108002, x108003 => if x5 < (x108003.length : Int) then (if 0 ≤ x5 then (if (IntKind.u64.wrap (Int.tdiv (IntKind.u64.wrap (x108002 + (IntKind.u64.wrap ((IntKind.u64.wrap ((rd_T41 x108003 x5).f0)) * 4096)))) 16384)) = x1 then (some true) else (ferryref04_used.l0 k x1 (wrap64 (x5 + 1)) x108000 x108001 x108002 x108003)) else (none)) else (some false)
def ferryref04_used.f (k : Nat) (l0_0 : List (S83)) (l0_1 : List (S88)) (a0_2 : Int) (l0_3 : List (S41)) (a1 : Int) : Option (Bool) := ferryref04_used.l0 k a1 0 l0_0 l0_1 a0_2 l0_3
theorem ferryref04_used.mono_l : ∀ k, (∀ y0 y1 y2 y3 y4 y5, LeO (ferryref04_used.l0 k y0 y1 y2 y3 y4 y5) (ferryref04_used.l0 (k + 1) y0 y1 y2 y3 y4 y5))
  | 0 => fun _ _ _ _ _ _ r h => by simp [ferryref04_used.l0] at h
  | k + 1 => by
    have ih0 := ferryref04_used.mono_l k
    · intro y0 y1 y2 y3 y4 y5
      unfold ferryref04_used.l0
      exact moT_
theorem ferryref04_used.mono : ∀ a0 a1 a2 a3 a4 k, LeO (ferryref04_used.f k a0 a1 a2 a3 a4) (ferryref04_used.f (k + 1) a0 a1 a2 a3 a4) := by
  intro a0 a1 a2 a3 a4 k
  have ih0 := ferryref04_used.mono_l k
  unfold ferryref04_used.f
  exact moT_
set_option maxHeartbeats 8000000 in
set_option maxRecDepth 100000 in
theorem ferryref04_used.calls (k : Nat) (A0_0 : Option Addr) (c0_0 : Nat) (l0_0 : List (S83)) (A0_1 : Option Addr) (c0_1 : Nat) (l0_1 : List (S88)) (a0_2 : Int) (A0_3 : Option Addr) (c0_3 : Nat) (l0_3 : List (S41)) (a1 : Int) (r : Bool) (w : World) (hr0_0 : Kd.C k83 w A0_0 l0_0.length l0_0) (hc0_0 : l0_0.length ≤ c0_0) (hr0_1 : Kd.C k88 w A0_1 l0_1.length l0_1) (hc0_1 : l0_1.length ≤ c0_1) (hr0_3 : Kd.C k41 w A0_3 l0_3.length l0_3) (hc0_3 : l0_3.length ≤ c0_3) (h : ferryref04_used.f k l0_0 l0_1 a0_2 l0_3 a1 = some r) :
    Calls Try.prog 47 #[.agg #[.slice A0_0 l0_0.length c0_0, .slice A0_1 l0_1.length c0_1, .int .u64 a0_2, .slice A0_3 l0_3.length c0_3], .int .u64 a1] w fun e w' => e = .returned (.bool r) ∧ Below w.heap.size w w' := by
  have hu29 := Try.underlying29
  have HR0_0 := Aside0.mk hr0_0
  have HC0_0 := Aside0.mk hc0_0
  clear hr0_0 hc0_0
  have HR0_1 := Aside0.mk hr0_1
  have HC0_1 := Aside0.mk hc0_1
  clear hr0_1 hc0_1
  have HR0_3 := Aside0.mk hr0_3
  have HC0_3 := Aside0.mk hc0_3
  clear hr0_3 hc0_3
  have HB := Aside0.mk (Below.refl w.heap.size w)
  have H : (ferryref04_used.l0 k a1 0 l0_0 l0_1 a0_2 l0_3) = some r := h
  clear h
  have H' := Aside0.mk H
  clear H
  go_enter Try.func47, Try.ntmps47
  go_wp2_with (first | ((with_reducible refine gate_dst (N := 2) rfl ?_); refine bE_ 2 #[.slice A0_0 l0_0.length c0_0, .slice A0_1 l0_1.length c0_1, .int .u64 a0_2, .slice A0_3 l0_3.length c0_3] 29 ?_; intro gb107 hg w3 hbox hb; have BK107 := Aside0.mk hbox; have GW107 := geT_ w.heap.size hg; have GE107 := geT_ w.heap.size hg; replace HB := hB_ hb; clear hb hbox hg))
  repeat (go_quiet (first | ((with_reducible refine gate_dst (N := 2) rfl ?_); refine bE_ 2 #[.slice A0_0 l0_0.length c0_0, .slice A0_1 l0_1.length c0_1, .int .u64 a0_2, .slice A0_3 l0_3.length c0_3] 29 ?_; intro gb107 hg w3 hbox hb; have BK107 := Aside0.mk hbox; have GW107 := geT_ w.heap.size hg; have GE107 := geT_ w.heap.size hg; replace HB := hB_ hb; clear hb hbox hg)); try go_wp2_with (first | ((with_reducible refine gate_dst (N := 2) rfl ?_); refine bE_ 2 #[.slice A0_0 l0_0.length c0_0, .slice A0_1 l0_1.length c0_1, .int .u64 a0_2, .slice A0_3 l0_3.length c0_3] 29 ?_; intro gb107 hg w3 hbox hb; have BK107 := Aside0.mk hbox; have GW107 := geT_ w.heap.size hg; have GE107 := geT_ w.heap.size hg; replace HB := hB_ hb; clear hb hbox hg)))
  go_loopg [5] k (fun kq v5 w' => ∃ (x5_1 : Int), v5 = .int .i64 x5_1 ∧ Aside0 (ferryref04_used.l0 kq a1 x5_1 l0_0 l0_1 a0_2 l0_3 = some r) ∧ Aside0 (kq ≤ k) ∧ Aside0 (w'.heap[gb107]? = some (.cells #[(.slice A0_0 l0_0.length c0_0), (.slice A0_1 l0_1.length c0_1), .int .u64 a0_2, (.slice A0_3 l0_3.length c0_3)] 29 (0, 0))) ∧ Aside0 (Below w.heap.size w w'))
  case atStart => exact ⟨(0), r1_, H', ⟨Nat.le_refl _⟩, ⟨bT_ BK107.out⟩, ⟨beT_⟩⟩
  case round =>
    clear H'
    try clear p2
    obtain ⟨x5_1, rfl, HA, HK1, BK107, HB⟩ := hrel
    cases gk with
    | zero => exact absurd HA.out (by simp [ferryref04_used.l0])
    | succ k1 =>
      have H := HA.out
      clear HA
      simp only [ferryref04_used.l0] at H
      by_cases c4 : x5_1 < (l0_3.length : Int)
      · rw [if_pos c4] at H
        have c4b0 : decide (x5_1 < (l0_3.length : Int)) = true := decide_eq_true c4
        clear c4
        by_cases c5 : 0 ≤ x5_1
        · rw [if_pos c5] at H
          have c5b0 : decide (0 ≤ x5_1) = true := decide_eq_true c5
          clear c5
          by_cases c6 : (IntKind.u64.wrap (Int.tdiv (IntKind.u64.wrap (a0_2 + (IntKind.u64.wrap ((IntKind.u64.wrap ((rd_T41 l0_3 x5_1).f0)) * 4096)))) 16384)) = a1
          · rw [if_pos c6] at H
            have c6b0 : ((IntKind.u64.wrap (Int.tdiv (IntKind.u64.wrap (a0_2 + (IntKind.u64.wrap ((IntKind.u64.wrap ((rd_T41 l0_3 x5_1).f0)) * 4096)))) 16384)) == a1) = true := beq_iff_eq.mpr c6
            have c6b1 : ((IntKind.u64.wrap (Int.tdiv (IntKind.u64.wrap (a0_2 + (IntKind.u64.wrap ((IntKind.u64.wrap ((rd_T41 l0_3 x5_1).f0)) * 4096)))) 16384)) != a1) = false := bne_eq_false_iff_eq.mpr c6
            clear c6
            obtain rfl := Option.some.inj H
            obtain ⟨hcz7_0, hcz7_1, hcz7_2, hcz7_3, hfz7_0, hfz7_1, hfz7_2, hfz7_3⟩ := b4_ BK107.out
            have p108 : 0 ≤ (x5_1 : Int) := dT_
            have q108 : x5_1 < (l0_3.length : Int) := dT_
            obtain ⟨ad108, e108, hx108_0, hx108_1⟩ := at_T41 HR0_3.out x5_1 p108 q108
            cases e108
            replace hx108_0 := hX_ hx108_0
            replace hx108_1 := hX_ hx108_1
            replace p108 := eq_true p108
            replace q108 := eq_true q108
            go_wp2
            repeat (go_quiet (fail); try go_wp2)
            go_ret
            exact ⟨r3_, beT_⟩
          rw [if_neg c6] at H
          have c6b0 : ((IntKind.u64.wrap (Int.tdiv (IntKind.u64.wrap (a0_2 + (IntKind.u64.wrap ((IntKind.u64.wrap ((rd_T41 l0_3 x5_1).f0)) * 4096)))) 16384)) == a1) = false := beq_eq_false_iff_ne.mpr c6
          have c6b1 : ((IntKind.u64.wrap (Int.tdiv (IntKind.u64.wrap (a0_2 + (IntKind.u64.wrap ((IntKind.u64.wrap ((rd_T41 l0_3 x5_1).f0)) * 4096)))) 16384)) != a1) = true := bne_iff_ne.mpr c6
          have H' := Aside0.mk H
          clear H
          obtain ⟨hcz8_0, hcz8_1, hcz8_2, hcz8_3, hfz8_0, hfz8_1, hfz8_2, hfz8_3⟩ := b4_ BK107.out
          have p108 : 0 ≤ (x5_1 : Int) := dT_
          have q108 : x5_1 < (l0_3.length : Int) := dT_
          obtain ⟨ad108, e108, hx108_0, hx108_1⟩ := at_T41 HR0_3.out x5_1 p108 q108
          cases e108
          replace hx108_0 := hX_ hx108_0
          replace hx108_1 := hX_ hx108_1
          replace p108 := eq_true p108
          replace q108 := eq_true q108
          go_wp2
          repeat (go_quiet (fail); try go_wp2)
          go_roundg k1
          case measure => have := HK1.out; omega
          case rel => exact ⟨(wrap64 (x5_1 + 1)), r1_, H', ⟨by have := HK1.out; omega⟩, ⟨bT_ BK107.out⟩, ⟨beT_⟩⟩
        rw [if_neg c5] at H
        exact absurd H (by simp)
      rw [if_neg c4] at H
      have c4b0 : decide (x5_1 < (l0_3.length : Int)) = false := decide_eq_false c4
      clear c4
      obtain rfl := Option.some.inj H
      obtain ⟨hcz9_0, hcz9_1, hcz9_2, hcz9_3, hfz9_0, hfz9_1, hfz9_2, hfz9_3⟩ := b4_ BK107.out
      go_wp2
      repeat (go_quiet (fail); try go_wp2)
      go_ret
      exact ⟨r3_, beT_⟩

end Go.Proofs.Ytgkjdpdmmlalcaa.F
end
section
namespace Go.Proofs.Ytgkjdpdmmlalcaa.F
set_option linter.unusedVariables false
section
variable {α : Type} (key val : α → Int)
def Rises : List α → Prop
  | [] => True
  | [_] => True
  | x :: y :: l => key x < key y ∧ Rises (y :: l)
theorem rises_tail {x : α} {l : List α} (h : Rises key (x :: l)) : Rises key l := by
  cases l with
  | nil => trivial
  | cons y l => exact h.2
theorem rises_head : ∀ {l : List α} {x : α}, Rises key (x :: l) → ∀ y ∈ l, key x < key y
  | [], _, _, y, hy => by simp at hy
  | z :: l, x, h, y, hy => by
    rcases List.mem_cons.1 hy with rfl | hy
    · exact h.1
    · exact Int.lt_trans h.1 (rises_head h.2 y hy)
theorem rises_cons {x : α} {l : List α} (h : ∀ y ∈ l, key x < key y) (hl : Rises key l) : Rises key (x :: l) := by
  cases l with
  | nil => trivial
  | cons y l => exact ⟨h y List.mem_cons_self, hl⟩
theorem rises_append : ∀ {l m : List α}, Rises key l → Rises key m → (∀ x ∈ l, ∀ y ∈ m, key x < key y) → Rises key (l ++ m)
  | [], _, _, hm, _ => hm
  | x :: l, m, hl, hm, h => by
    refine rises_cons key (fun y hy => ?_) (rises_append (rises_tail key hl) hm (fun a ha b hb => h a (List.mem_cons_of_mem _ ha) b hb))
    rcases List.mem_append.1 hy with hy | hy
    · exact rises_head key hl y hy
    · exact h x List.mem_cons_self y hy
theorem rises_left : ∀ {l m : List α}, Rises key (l ++ m) → Rises key l
  | [], _, _ => trivial
  | x :: l, m, h => rises_cons key (fun y hy => rises_head key h y (List.mem_append_left _ hy)) (rises_left (rises_tail key h))
theorem rises_right : ∀ {l m : List α}, Rises key (l ++ m) → Rises key m
  | [], _, h => h
  | x :: l, m, h => rises_right (l := l) (rises_tail key h)
theorem rises_filter (p : α → Bool) : ∀ {l : List α}, Rises key l → Rises key (l.filter p)
  | [], _ => trivial
  | x :: l, h => by
    rw [List.filter_cons]
    split
    · exact rises_cons key (fun y hy => rises_head key h y (List.mem_filter.1 hy).1) (rises_filter p (rises_tail key h))
    · exact rises_filter p (rises_tail key h)
theorem rises_map {l : List α} (f : α → α) (hf : ∀ x, key (f x) = key x) (h : Rises key l) : Rises key (l.map f) := by
  induction l with
  | nil => trivial
  | cons x l ih =>
    refine rises_cons key (fun y hy => ?_) (ih (rises_tail key h))
    obtain ⟨z, hz, rfl⟩ := List.mem_map.1 hy
    rw [hf, hf]
    exact rises_head key h z hz
theorem rises_get : ∀ {l : List α}, Rises key l → ∀ (i j : Nat) (hj : j < l.length) (hij : i < j), key (l[i]'(Nat.lt_trans hij hj)) < key l[j]
  | x :: l, h, 0, j + 1, hj, _ => rises_head key h _ (List.getElem_mem (by simpa using hj))
  | x :: l, h, i + 1, j + 1, hj, hij => by
    have := rises_get (rises_tail key h) i j (by simpa using hj) (by omega)
    simpa using this
def lowB (k : Int) : List α → Nat
  | [] => 0
  | x :: l => if key x < k then lowB k l + 1 else 0
theorem lowB_le (k : Int) : ∀ l : List α, lowB key k l ≤ l.length
  | [] => Nat.le_refl _
  | x :: l => by
    unfold lowB
    split
    · have := lowB_le k l
      simpa using this
    · simp
theorem lowB_lt (k : Int) : ∀ (l : List α) (j : Nat) (hj : j < l.length), j < lowB key k l → key l[j] < k
  | x :: l, 0, hj, h => by
    unfold lowB at h
    split at h
    · assumption
    · omega
  | x :: l, j + 1, hj, h => by
    unfold lowB at h
    split at h
    · have := lowB_lt k l j (by simpa using hj) (by omega)
      simpa using this
    · omega
theorem lowB_ge (k : Int) : ∀ {l : List α}, Rises key l → ∀ (j : Nat) (hj : j < l.length), lowB key k l ≤ j → k ≤ key l[j]
  | x :: l, hr, 0, hj, h => by
    unfold lowB at h
    split at h
    · omega
    · simp only [List.getElem_cons_zero]; omega
  | x :: l, hr, j + 1, hj, h => by
    unfold lowB at h
    split at h
    · have := lowB_ge k (rises_tail key hr) j (by simpa using hj) (by omega)
      simpa using this
    · have hj' : j < l.length := by simpa using hj
      have := rises_head key hr l[j] (List.getElem_mem hj')
      simp only [List.getElem_cons_succ]
      omega
theorem lowB_of {k : Int} {l : List α} (hr : Rises key l) (i : Nat) (hi : i ≤ l.length) (h1 : ∀ j (hj : j < l.length), j < i → key l[j] < k) (h2 : ∀ j (hj : j < l.length), i ≤ j → k ≤ key l[j]) : lowB key k l = i := by
  have h0 := lowB_le key k l
  rcases Nat.lt_trichotomy (lowB key k l) i with h | h | h
  · have a := lowB_ge key k hr (lowB key k l) (by omega) (Nat.le_refl _)
    have b := h1 (lowB key k l) (by omega) h
    omega
  · exact h
  · have a := lowB_lt key k l i (by omega) h
    have b := h2 i (by omega) (Nat.le_refl _)
    omega
theorem take_lowB (k : Int) : ∀ l : List α, ∀ x ∈ l.take (lowB key k l), key x < k
  | [], x, h => by simp at h
  | y :: l, x, h => by
    unfold lowB at h
    split at h
    · rw [List.take_succ_cons] at h
      rcases List.mem_cons.1 h with rfl | h
      · assumption
      · exact take_lowB k l x h
    · simp at h
theorem drop_lowB (k : Int) : ∀ {l : List α}, Rises key l → ∀ x ∈ l.drop (lowB key k l), k ≤ key x
  | [], _, x, h => by simp at h
  | y :: l, hr, x, h => by
    unfold lowB at h
    split at h
    · rw [List.drop_succ_cons] at h
      exact drop_lowB k (rises_tail key hr) x h
    · rw [List.drop_zero] at h
      rcases List.mem_cons.1 h with rfl | h
      · omega
      · have := rises_head key hr x h
        omega
def has (k : Int) (l : List α) : Bool := l.any (fun x => decide (key x = k))
theorem has_lowB {k : Int} {l : List α} (hr : Rises key l) : has key k l = (match l[lowB key k l]? with | some x => decide (key x = k) | none => false) := by
  by_cases hlt : lowB key k l < l.length
  · rw [List.getElem?_eq_getElem hlt]
    dsimp only
    have hge := lowB_ge key k hr _ hlt (Nat.le_refl _)
    by_cases he : key l[lowB key k l] = k
    · rw [decide_eq_true he]
      exact List.any_eq_true.2 ⟨_, List.getElem_mem hlt, decide_eq_true he⟩
    rw [decide_eq_false he]
    refine List.any_eq_false.2 (fun x hx => ?_)
    obtain ⟨j, hj, rfl⟩ := List.getElem_of_mem hx
    rcases Nat.lt_or_ge j (lowB key k l) with h | h
    · have := lowB_lt key k l j hj h
      simp; omega
    · rcases Nat.lt_or_eq_of_le h with h | h
      · have := rises_get key hr _ j hj h
        simp; omega
      · subst h
        simpa using he
  rw [List.getElem?_eq_none (by omega)]
  dsimp only
  refine List.any_eq_false.2 (fun x hx => ?_)
  obtain ⟨j, hj, rfl⟩ := List.getElem_of_mem hx
  have := lowB_lt key k l j hj (by omega)
  simp; omega
def look (a : Int) : List α → Int
  | [] => 0
  | x :: l => if key x = a then val x else look a l
theorem look_none {a : Int} : ∀ {l : List α}, (∀ x ∈ l, key x ≠ a) → look key val a l = 0
  | [], _ => rfl
  | x :: l, h => by
    unfold look
    rw [if_neg (h x List.mem_cons_self), look_none (fun y hy => h y (List.mem_cons_of_mem _ hy))]
theorem look_mem {l : List α} (hr : Rises key l) {x : α} (hx : x ∈ l) : look key val (key x) l = val x := by
  induction l with
  | nil => simp at hx
  | cons y l ih =>
    unfold look
    rcases List.mem_cons.1 hx with rfl | hx
    · exact if_pos rfl
    · have := rises_head key hr x hx
      rw [if_neg (by omega), ih (rises_tail key hr) hx]
theorem look_append (a : Int) (l m : List α) (h : ∀ x ∈ l, key x ≠ a) : look key val a (l ++ m) = look key val a m := by
  induction l with
  | nil => rfl
  | cons y l ih =>
    rw [List.cons_append]
    conv => lhs; unfold look
    rw [if_neg (h y List.mem_cons_self)]
    exact ih (fun x hx => h x (List.mem_cons_of_mem _ hx))
theorem look_lowB {k : Int} {l : List α} (hr : Rises key l) : look key val k l = (match l[lowB key k l]? with | some x => if key x = k then val x else 0 | none => 0) := by
  have hd := List.take_append_drop (lowB key k l) l
  have e : look key val k l = look key val k (l.drop (lowB key k l)) := by
    conv => lhs; rw [← hd]
    exact look_append key val k _ _ (fun x hx => by have := take_lowB key k l x hx; omega)
  rw [e]
  by_cases hlt : lowB key k l < l.length
  · rw [List.getElem?_eq_getElem hlt, List.drop_eq_getElem_cons hlt]
    unfold look
    dsimp only
    split
    · rfl
    · refine look_none key val (fun x hx => ?_)
      have h1 := drop_lowB key k hr l[lowB key k l] (by rw [List.drop_eq_getElem_cons hlt]; exact List.mem_cons_self)
      have h2 : Rises key (l.drop (lowB key k l)) := by
        rw [← hd] at hr
        exact rises_right key hr
      rw [List.drop_eq_getElem_cons hlt] at h2
      have := rises_head key h2 x hx
      omega
  rw [List.getElem?_eq_none (by omega), List.drop_eq_nil_of_le (by omega)]
  rfl
theorem look_ext (inj : ∀ x y : α, key x = key y → val x = val y → x = y) : ∀ {l m : List α}, Rises key l → Rises key m → (∀ x ∈ l, val x ≠ 0) → (∀ x ∈ m, val x ≠ 0) → (∀ a, look key val a l = look key val a m) → l = m
  | [], [], _, _, _, _, _ => rfl
  | [], y :: m, _, hm, _, hn, h => by
    have := h (key y)
    unfold look at this
    rw [if_pos rfl] at this
    exact absurd this.symm (hn y List.mem_cons_self)
  | x :: l, [], hl, _, hn, _, h => by
    have := h (key x)
    unfold look at this
    rw [if_pos rfl] at this
    exact absurd this (hn x List.mem_cons_self)
  | x :: l, y :: m, hl, hm, hn, hn', h => by
    have hx := look_mem key val hl (List.mem_cons_self (a := x))
    have hy := look_mem key val hm (List.mem_cons_self (a := y))
    have nx := hn x List.mem_cons_self
    have ny := hn' y List.mem_cons_self
    have e : key x = key y := by
      rcases Int.lt_trichotomy (key x) (key y) with h1 | h1 | h1
      · rw [h (key x), look_none key val (fun z hz => by
          rcases List.mem_cons.1 hz with rfl | hz
          · omega
          · have := rises_head key hm z hz
            omega)] at hx
        exact absurd hx.symm nx
      · exact h1
      · rw [← h (key y), look_none key val (fun z hz => by
          rcases List.mem_cons.1 hz with rfl | hz
          · omega
          · have := rises_head key hl z hz
            omega)] at hy
        exact absurd hy.symm ny
    have ev : val x = val y := by rw [← hx, h, e, hy]
    have exy := inj x y e ev
    subst exy
    congr 1
    refine look_ext inj (rises_tail key hl) (rises_tail key hm) (fun z hz => hn z (List.mem_cons_of_mem _ hz)) (fun z hz => hn' z (List.mem_cons_of_mem _ hz)) (fun a => ?_)
    have ha := h a
    unfold look at ha
    by_cases hk : key x = a
    · rw [look_none key val (fun z hz => by have := rises_head key hl z hz; omega), look_none key val (fun z hz => by have := rises_head key hm z hz; omega)]
    rw [if_neg hk, if_neg hk] at ha
    exact ha
end
end Go.Proofs.Ytgkjdpdmmlalcaa.F
end
