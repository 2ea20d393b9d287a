import Derived.Test.YtjhfglpgpicmiaaVZF0
section
namespace Go.Proofs.Ytjhfglpgpicmiaa.F
open Go.RowKit Go.Proofs.YtjhfglpgpicmiaaW.PrintWords Go.Proofs.YtjhfglpgpicmiaaW.PrintLast Go.Proofs.YtjhfglpgpicmiaaW.PrintMore
attribute [local go_sem] max2_int min2_int max_two min_two max_three min_three max_four min_four
set_option linter.unusedVariables false
set_option linter.unusedSimpArgs false

def host_within.f (a0 : Int) (a1 : Int) (a2 : Int) : Option (Bool) := if a0 ≥ a1 then (some (decide ((IntKind.u64.wrap (a0 - a1)) < a2))) else (some false)
set_option maxHeartbeats 8000000 in
set_option maxRecDepth 100000 in
theorem host_within.calls (a0 : Int) (a1 : Int) (a2 : Int) (r : Bool) (w : World) (h : host_within.f a0 a1 a2 = some r) :
    Calls Try.prog 68 #[.int .u64 a0, .int .u64 a1, .int .u64 a2] w fun e w' => e = .returned (.bool r) ∧ Drawn0 w w' := by
  have H : (if a0 ≥ a1 then (some (decide ((IntKind.u64.wrap (a0 - a1)) < a2))) else (some false)) = some r := h
  clear h
  by_cases c4 : a0 ≥ a1
  · rw [if_pos c4] at H
    have c4b0 : decide (a1 ≤ a0) = true := decide_eq_true c4
    clear c4
    obtain rfl := Option.some.inj H
    go_enter Try.func68, Try.ntmps68
    go_wp2
    go_ret
    exact ⟨by first | rfl | (simp; done) | (simp [*]; done), by repeat (first | exact Drawn0.refl _ | apply Drawn0.step)⟩
  rw [if_neg c4] at H
  have c4b0 : decide (a1 ≤ a0) = false := decide_eq_false c4
  clear c4
  obtain rfl := Option.some.inj H
  go_enter Try.func68, Try.ntmps68
  go_wp2
  go_ret
  exact ⟨by first | rfl | (simp; done) | (simp [*]; done), by repeat (first | exact Drawn0.refl _ | apply Drawn0.step)⟩

end Go.Proofs.Ytjhfglpgpicmiaa.F
end
section
namespace Go.Proofs.Ytjhfglpgpicmiaa.F
open Go.RowKit Go.Proofs.YtjhfglpgpicmiaaW.PrintWords Go.Proofs.YtjhfglpgpicmiaaW.PrintLast Go.Proofs.YtjhfglpgpicmiaaW.PrintMore
attribute [local go_sem] max2_int min2_int max_two min_two max_three min_three max_four min_four
set_option linter.unusedVariables false
set_option linter.unusedSimpArgs false

def host_badProt.f (a0 : Int) : Option (Bool) := some ((Go.bits .andNot .i64 a0 7) != 0)
set_option maxHeartbeats 8000000 in
set_option maxRecDepth 100000 in
theorem host_badProt.calls (a0 : Int) (r : Bool) (w : World) (h : host_badProt.f a0 = some r) :
    Calls Try.prog 87 #[.int .i64 a0] w fun e w' => e = .returned (.bool r) ∧ Drawn0 w w' := by
  have H : (some ((Go.bits .andNot .i64 a0 7) != 0)) = some r := h
  clear h
  obtain rfl := Option.some.inj H
  go_enter Try.func87, Try.ntmps87
  go_wp2
  go_ret
  exact ⟨by first | rfl | (simp; done) | (simp [*]; done), by repeat (first | exact Drawn0.refl _ | apply Drawn0.step)⟩

end Go.Proofs.Ytjhfglpgpicmiaa.F
end
section
namespace Go.Proofs.Ytjhfglpgpicmiaa.F
open Go.RowKit Go.Proofs.YtjhfglpgpicmiaaW.PrintWords Go.Proofs.YtjhfglpgpicmiaaW.PrintLast Go.Proofs.YtjhfglpgpicmiaaW.PrintMore
set_option linter.unusedVariables false
def mb_ (n k : Nat) : Array Bool := ((List.range n).map (fun i => k.testBit i)).toArray
theorem bT_ {p q : Prop} (h0 : p) (h : p → q := by (intro h0; (with_reducible repeat (first | refine blk_drewN ?_ _ | refine blk_drew ?_ | refine blk_alloc ?_ _)); exact h0)) : q := h h0
theorem bfT_ {p q : Prop} (h0 : p) (h : p → q := by (intro h0; (with_reducible repeat (first | refine blk_drewN ?_ _ | refine blk_drew ?_ | refine blk_alloc ?_ _ | refine blk_far ?_ (Aside0.out (by assumption)) _)); exact h0)) : q := h h0
theorem vT_ {p q : Prop} (h0 : p) (h : p → q := by (intro h0; (with_reducible repeat (first | apply Kd.V_alloc | apply Kd.V_drewN | apply Kd.V_drew)); exact h0)) : q := h h0
theorem rT_ {p q : Prop} (h0 : p) (h : p → q := by (intro h0; (with_reducible repeat (first | apply Kd.R_alloc | apply Kd.R_drewN | apply Kd.R_drew)); exact h0)) : q := h h0
theorem beT_ {p : Prop} (h : p := by repeat (first | (with_reducible first | exact HB.out | apply below_alloc | apply pw_below_drewN | apply below_drew1 | refine below_set ?_ (Aside0.out (by assumption))) | exact HB.out)) : p := h
theorem b2_ {w : World} {g : Nat} {t : TypeId} {a0 a1 : Value} (h : w.heap[g]? = some (.cells #[a0, a1] t (0, 0))) : w.cell? ⟨g, 0, none⟩ = some a0 ∧ w.cell? ⟨g, 1, none⟩ = some a1 ∧ w.frozen? ⟨g, 0, none⟩ = false ∧ w.frozen? ⟨g, 1, none⟩ = false := ⟨(blk_cell h 0).trans rfl, (blk_cell h 1).trans rfl, blk_frozen h 0, blk_frozen h 1⟩
theorem b4_ {w : World} {g : Nat} {t : TypeId} {a0 a1 a2 a3 : Value} (h : w.heap[g]? = some (.cells #[a0, a1, a2, a3] t (0, 0))) : w.cell? ⟨g, 0, none⟩ = some a0 ∧ w.cell? ⟨g, 1, none⟩ = some a1 ∧ w.cell? ⟨g, 2, none⟩ = some a2 ∧ w.cell? ⟨g, 3, none⟩ = some a3 ∧ w.frozen? ⟨g, 0, none⟩ = false ∧ w.frozen? ⟨g, 1, none⟩ = false ∧ w.frozen? ⟨g, 2, none⟩ = false ∧ w.frozen? ⟨g, 3, none⟩ = false := ⟨(blk_cell h 0).trans rfl, (blk_cell h 1).trans rfl, (blk_cell h 2).trans rfl, (blk_cell h 3).trans rfl, blk_frozen h 0, blk_frozen h 1, blk_frozen h 2, blk_frozen h 3⟩
theorem dT_ {p : Prop} [Decidable p] (h : decide p = true := by first | (with_reducible assumption) | assumption) : p := of_decide_eq_true h
theorem r1_ {p : Prop} (h : p := by first | rfl | (simp; done) | (simp [*]; done)) : p := h
theorem r2_ {p : Prop} (h : p := by first | omega | exact Nat.le_refl _) : p := h
theorem r3_ {p : Prop} (h : p := by first | rfl | (simp [errW_none, errW_some] <;> rfl) | (simp [*, errW_none, errW_some] <;> rfl)) : p := h
theorem aT_ {p : Prop} (h : p := by (try simp only [List.map_toArray, List.map_cons, List.map_nil]); first | done | rfl | (simp only [List.length_drop, List.length_take]; rfl)) : p := h
theorem moT_ {p : Prop} (h : p := by repeat' first | (with_reducible exact LeO.refl _) | (with_reducible exact LeO.none _) | (with_reducible apply ih0) | (with_reducible apply ih1) | (with_reducible apply ih2) | (with_reducible apply ih3) | (with_reducible apply ih4) | (with_reducible apply ih5) | (with_reducible apply ih6) | (with_reducible apply ih7) | (with_reducible apply ic0) | (with_reducible apply ic1) | (with_reducible apply ic2) | (with_reducible apply ic3) | (with_reducible apply ic4) | (with_reducible apply ic5) | (with_reducible apply ic6) | (with_reducible refine LeO.ite ?_ ?_) | (with_reducible refine LeO.bind ?_ (fun _ => ?_)) | apply ih0 | apply ih1 | apply ih2 | apply ih3 | apply ic0 | apply ic1 | apply ic2 | apply ic3 | apply ic4 | apply ic5 | apply ic6 | exact LeO.none _ | refine LeO.ite ?_ ?_ | refine LeO.bind ?_ (fun _ => ?_)) : p := h
theorem hN_ {α : Type} {a b r : α} (h : (if false = true then a else b) = r) : b = r := (if_neg (by decide)).symm.trans h
theorem hP_ {α : Type} {a b r : α} (h : (if true = true then a else b) = r) : a = r := (if_pos rfl).symm.trans h
theorem geT_ (n : Nat) {m g : Nat} (hg : g = m) (h : n ≤ m := by exact below_size beT_) : Aside0 (n ≤ g) := ⟨hg ▸ h⟩
theorem kB_ {w w1 w' : World} {g : Nat} {o : Obj} (h0 : Aside0 (w.heap[g]? = some o)) (hb : Below w1.heap.size w1 w') (h : w.heap[g]? = some o → w1.heap[g]? = some o := by (intro h0; (with_reducible repeat (first | refine blk_drewN ?_ _ | refine blk_drew ?_ | refine blk_alloc ?_ _ | refine blk_far ?_ (Aside0.out (by assumption)) _)); exact h0)) : Aside0 (w'.heap[g]? = some o) := ⟨blk_below (h h0.out) hb⟩
theorem kG_ {w w1 w' : World} {g : Nat} {o : Obj} {row : Option Nat} (h0 : w.heap[g]? = some o) (hg : w1.grownBy w' row) (hne : some g ≠ row) (h : w.heap[g]? = some o → w1.heap[g]? = some o := by (intro h0; (with_reducible repeat (first | refine blk_drewN ?_ _ | refine blk_drew ?_ | refine blk_alloc ?_ _ | refine blk_far ?_ (Aside0.out (by assumption)) _)); exact h0)) : Aside0 (w'.heap[g]? = some o) := ⟨blk_grown (h h0) hg hne⟩
theorem hB_ {w W w2 : World} (hb : Below W.heap.size W w2) (h : Below w.heap.size w W := by exact beT_) : Aside0 (Below w.heap.size w w2) := ⟨below_step h hb⟩
theorem nlT_ {w w1 : World} {g g' : Nat} {o : Obj} (h0 : w.heap[g]? = some o) (hg : g' = w1.heap.size) (h : w.heap[g]? = some o → w1.heap[g]? = some o := by (intro h0; (with_reducible repeat (first | refine blk_drewN ?_ _ | refine blk_drew ?_ | refine blk_alloc ?_ _ | refine blk_far ?_ (Aside0.out (by assumption)) _)); exact h0)) : Aside0 (g ≠ g') := ⟨hg ▸ Nat.ne_of_lt (blk_lt (h h0))⟩
theorem ngT_ {w w1 : World} {g g' : Nat} {o : Obj} (h0 : w.heap[g]? = some o) (hg : g' = w1.heap.size) (h : w.heap[g]? = some o → w1.heap[g]? = some o := by (intro h0; (with_reducible repeat (first | refine blk_drewN ?_ _ | refine blk_drew ?_ | refine blk_alloc ?_ _ | refine blk_far ?_ (Aside0.out (by assumption)) _)); exact h0)) : Aside0 (g' ≠ g) := ⟨hg ▸ Nat.ne_of_gt (blk_lt (h h0))⟩
theorem kE_ {w : World} {g : Nat} {t : TypeId} {cs cs' : Array Value} (h : w.heap[g]? = some (.cells cs t (0, 0))) (e : cs = cs') : w.heap[g]? = some (.cells cs' t (0, 0)) := e ▸ h
theorem kP_ {p q : Prop} (h0 : p) (h : p → q := by (intro h0; apply kE_; (repeat (first | (with_reducible first | exact h0 | refine blk_drewN ?_ _ | refine blk_drew ?_ | refine blk_alloc ?_ _) | apply blk_set | apply blk_far)); all_goals (first | exact (Aside0.out (by assumption)) | rfl | (simp [*]; done)))) : q := h h0
theorem hX_ {w W : World} {a : Addr} {v : Value} (h0 : w.cell? a = some v) (h : Below w.heap.size w W := by exact HB.out) : W.cell? a = some v := (h.cell (World.block_lt_of_cell? w _ h0)).trans h0
theorem cT_ {p q : Prop} (h0 : p) (h : p → q := by (intro h0; repeat (first | exact h0 | (with_reducible refine Kd.C_alloc ?_ _) | (with_reducible refine Kd.C_drewN ?_ _) | (with_reducible refine Kd.C_drew ?_)))) : q := h h0
section
variable {α : Type} {d : Kd α} {e base g : Nat} {ok ok' : Nat → Prop} {W w1 w2 : World} {v : Value} {xs : List α} {p : Prop}
theorem vE_ (h0 : p) (hg : g = W.heap.size) (hb : Below W.heap.size W w1) (h : p → Kd.V d e W base ok v xs := by (intro h0; (with_reducible repeat (first | apply Kd.V_alloc | apply Kd.V_drewN | apply Kd.V_drew)); exact h0)) : Aside0 (Kd.V d e w1 base (fun k => ok k ∧ k ≠ g) v xs) := ⟨Kd.V_below (Kd.V_elderB (h h0) g (Nat.le_of_eq hg.symm)) hb⟩
theorem vB_ (h0 : p) (hb : Below W.heap.size W w1) (h : p → Kd.V d e W base ok v xs := by (intro h0; (with_reducible repeat (first | apply Kd.V_alloc | apply Kd.V_drewN | apply Kd.V_drew)); exact h0)) : Aside0 (Kd.V d e w1 base ok v xs) := ⟨Kd.V_below (h h0) hb⟩
theorem rE_ (h0 : p) (hg : g = W.heap.size) (hb : Below W.heap.size W w1) (h : p → Kd.R d e W base ok v xs := by (intro h0; (with_reducible repeat (first | apply Kd.R_alloc | apply Kd.R_drewN | apply Kd.R_drew)); exact h0)) : Aside0 (Kd.R d e w1 base (fun k => ok k ∧ k ≠ g) v xs) := ⟨Kd.R_below (Kd.R_elderB (h h0) g (Nat.le_of_eq hg.symm)) hb⟩
theorem rB_ (h0 : p) (hb : Below W.heap.size W w1) (h : p → Kd.R d e W base ok v xs := by (intro h0; (with_reducible repeat (first | apply Kd.R_alloc | apply Kd.R_drewN | apply Kd.R_drew)); exact h0)) : Aside0 (Kd.R d e w1 base ok v xs) := ⟨Kd.R_below (h h0) hb⟩
theorem vF_ (h0 : Kd.V d e W base ok v xs) (hm : ∀ k, ok k → k < W.heap.size → w1.heap[k]? = W.heap[k]? := by (intro k hk hl; repeat' (first | (with_reducible rfl) | (refine (Below.heap_setCell _ _ _ _ ?_).trans ?_) | (show k ≠ _; clear hl; first | exact hk.2 | exact hk.2.1 | exact hk.2.2 | exact hk.1.2 | omega | grind) | exact rfl))) (ho : ∀ k, ok k → ok' k := by (intro k hk; first | exact hk | exact hk.1 | exact hk.1.1 | exact hk.1.1.1 | exact hk.1.1.1.1 | exact trivial | grind | (have h1 : ∀ k : Nat, some k ≠ (Value.slice none 0 0).ownBlock := (by simp [Value.ownBlock]); grind))) : Kd.V d e w1 base ok' v xs := Kd.V_mono (Kd.V_step h0 hm) ho
theorem vM_ (h0 : Kd.V d e W base ok v xs) (hm : ∀ k, ok k → k < W.heap.size → w1.heap[k]? = W.heap[k]? := by (intro k hk hl; first | (with_reducible rfl) | exact rfl)) (ho : ∀ k, ok k → ok' k := by (intro k hk; first | exact hk | exact hk.1 | exact trivial | grind | (have h1 : ∀ k : Nat, some k ≠ (Value.slice none 0 0).ownBlock := (by simp [Value.ownBlock]); grind))) : Kd.V d e w1 base ok' v xs := Kd.V_mono (Kd.V_step h0 hm) ho
theorem rF_ (h0 : Kd.R d e W base ok v xs) (hm : ∀ k, ok k → k < W.heap.size → w1.heap[k]? = W.heap[k]? := by (intro k hk hl; repeat' (first | (with_reducible rfl) | (refine (Below.heap_setCell _ _ _ _ ?_).trans ?_) | (show k ≠ _; clear hl; first | exact hk.2 | exact hk.2.1 | exact hk.2.2 | exact hk.1.2 | omega | grind) | exact rfl))) (ho : ∀ k, ok k → ok' k := by (intro k hk; first | exact hk | exact hk.1 | exact hk.1.1 | exact hk.1.1.1 | exact hk.1.1.1.1 | exact trivial | grind | (have h1 : ∀ k : Nat, some k ≠ (Value.slice none 0 0).ownBlock := (by simp [Value.ownBlock]); grind))) : Kd.R d e w1 base ok' v xs := Kd.R_mono (Kd.R_step h0 hm) ho
theorem rM_ (h0 : Kd.R d e W base ok v xs) (hm : ∀ k, ok k → k < W.heap.size → w1.heap[k]? = W.heap[k]? := by (intro k hk hl; first | (with_reducible rfl) | exact rfl)) (ho : ∀ k, ok k → ok' k := by (intro k hk; first | exact hk | exact hk.1 | exact trivial | grind | (have h1 : ∀ k : Nat, some k ≠ (Value.slice none 0 0).ownBlock := (by simp [Value.ownBlock]); grind))) : Kd.R d e w1 base ok' v xs := Kd.R_mono (Kd.R_step h0 hm) ho
end
section
variable {P : Program} {ops : Array Oper} {rest : List Oper} {Q : Exit → Act → World → Prop} {a : Act} {w W : World} {oi : Oper}
theorem gL_ (N : Option Tmp) {f : FuncId} {fn : Func} {az : Array Operand} {ts : Array TypeId} (hf : P.funcs[f]? = some fn) (args : Array Value)
    (h : Calls P f args w fun e w' => ∃ v, e = .returned v ∧ wpList P ops Q rest (a.put N v) w')
    (hd : oi.dst = N := by rfl) (hg : oi.guard = none := by rfl) (hname : (fn.name == "runtime.NumGoroutine") = false := by kernel_rfl) (hb : fn.body.isSome = true := by rfl)
    (hop : oi.op = .call { callee := .value (.func f), args := az, argTypes := ts } := by rfl) (hargs : az.map a.eval = args := by exact aT_) : wpList P ops Q (oi :: rest) a w := goesL_ N hd hg hf hname hb args hop hargs h
theorem bE_ (N : Tmp) (cs : Array Value) (t : TypeId) (h : ∀ g, g = W.heap.size → ∀ w1, w1.heap[g]? = some (.cells cs t (0, 0)) → Below W.heap.size W w1 → wpList P ops Q rest (a.put oi.dst (.pointer (some ⟨g, 0, none⟩))) w1)
    (hd : oi.dst = some N := by rfl) (hg : oi.guard = none := by rfl) (hr : (execOp a.eval oi).run P W = .ok (.value (.pointer (some ⟨W.heap.size, 0, none⟩))) (W.alloc (.cells cs t (0, 0))) := by first | kernel_rfl | (go_simp; done) | (go_simp; rfl)) : wpList P ops Q (oi :: rest) a W := box_event hg hd hr h
end
section
variable {P : Program} {ops : Array Oper} {Q : Exit → Act → World → Prop} {md : Region.Mode} {S : World → Prop} {ds : List Nat}
theorem pS_ (i n_ : Nat) (l' : Array Bool) {oi : Oper} {v : Value} {fuel : Nat} {l : Array Bool} {a : Act} {w : World} {a' : Act} (h : wpAnyLast P md ops Q S ds fuel l' a' w)
    (hi : ops[i]? = some oi := by exact rfl) (hN : oi.dst = some n_ := by exact rfl) (hc : anyB md ops l l' i = true := by exact any_of HT_.out (by kernel_rfl)) (hy : Yields P ops oi v a := by (refine Or.inl ⟨by rfl, ?_⟩; intro w'; go_simp; with_reducible rfl))
    (hQ : ∀ c a w, Q (.panic c) (a.put oi.dst v) w → Q (.panic c) a w := by exact fun _ _ _ h => h) (ha : a.put (some n_) v = a' := by (simp only [Act.put, List.setIfInBounds_toArray, List.set_cons_zero, List.set_cons_succ, i64_w, i32_w]; rfl)) :
    wpAnyLast P md ops Q S ds (fuel + 1) l a w := pure_ l' hi hN hc hQ hy ha h
theorem uS_ (i n_ : Nat) (l' : Array Bool) {oi : Oper} {fuel : Nat} {l : Array Bool} {a : Act} {w : World} {a' : Act} (h : wpAnyLast P md ops Q S ds fuel l' a' w)
    (hi : ops[i]? = some oi := by exact rfl) (hN : oi.dst = some n_ := by exact rfl) (hc : anyB md ops l l' i = true := by exact any_of HT_.out (by kernel_rfl)) (hy : Yields P ops oi undef a := by exact Or.inr ⟨by rfl, rfl⟩)
    (hQ : ∀ c a w, Q (.panic c) (a.put oi.dst undef) w → Q (.panic c) a w := by exact fun _ _ _ h => h) (ha : a.put (some n_) undef = a' := by (simp only [Act.put, List.setIfInBounds_toArray, List.set_cons_zero, List.set_cons_succ, i64_w, i32_w]; rfl)) :
    wpAnyLast P md ops Q S ds (fuel + 1) l a w := pure_ l' hi hN hc hQ hy ha h
theorem nS_ {fuel : Nat} {l : Array Bool} {a a' : Act} {w : World} (h : wpAnyLast P md ops Q S ds fuel l a' w) (ha : a = a' := by (show Act.put _ _ _ = _; simp only [Act.put, List.setIfInBounds_toArray, List.set_cons_zero, List.set_cons_succ, i64_w, i32_w]; rfl)) :
    wpAnyLast P md ops Q S ds fuel l a w := norm_ ha h
theorem t2S_ (i n_ : Nat) (l' : Array Bool) {oi : Oper} {v : Value} {fuel : Nat} {l : Array Bool} {a : Act} {w : World} {a' : Act} (h : wpAnyLast P md ops Q S ds fuel l' a' w)
    (hi : ops[i]? = some oi := by exact rfl) (hN : oi.dst = some n_ := by exact rfl) (hc : takeB md ops ds l l' i = true := by exact take_ofW HT_.out HW_.out (by kernel_rfl)) (hy : YieldsIf P ops S oi v a := by (refine Or.inl ⟨by rfl, ?_⟩; rintro w' ⟨s0, s1⟩; go_simp; with_reducible rfl)) (hS : S w := by exact hHeld)
    (hQ : ∀ c a w, Q (.panic c) (a.put oi.dst v) w → Q (.panic c) a w := by exact fun _ _ _ h => h) (ha : a.put (some n_) v = a' := by (simp only [Act.put, List.setIfInBounds_toArray, List.set_cons_zero, List.set_cons_succ, i64_w, i32_w]; rfl)) :
    wpAnyLast P md ops Q S ds (fuel + 1) l a w := take_ l' hi hN hc hQ hy hS ha h
theorem t4S_ (i n_ : Nat) (l' : Array Bool) {oi : Oper} {v : Value} {fuel : Nat} {l : Array Bool} {a : Act} {w : World} {a' : Act} (h : wpAnyLast P md ops Q S ds fuel l' a' w)
    (hi : ops[i]? = some oi := by exact rfl) (hN : oi.dst = some n_ := by exact rfl) (hc : takeB md ops ds l l' i = true := by exact take_ofW HT_.out HW_.out (by kernel_rfl)) (hy : YieldsIf P ops S oi v a := by (refine Or.inl ⟨by rfl, ?_⟩; rintro w' ⟨s0, s1, s2, s3⟩; go_simp; with_reducible rfl)) (hS : S w := by exact hHeld)
    (hQ : ∀ c a w, Q (.panic c) (a.put oi.dst v) w → Q (.panic c) a w := by exact fun _ _ _ h => h) (ha : a.put (some n_) v = a' := by (simp only [Act.put, List.setIfInBounds_toArray, List.set_cons_zero, List.set_cons_succ, i64_w, i32_w]; rfl)) :
    wpAnyLast P md ops Q S ds (fuel + 1) l a w := take_ l' hi hN hc hQ hy hS ha h
theorem t5S_ (i n_ : Nat) (l' : Array Bool) {oi : Oper} {v : Value} {fuel : Nat} {l : Array Bool} {a : Act} {w : World} {a' : Act} (h : wpAnyLast P md ops Q S ds fuel l' a' w)
    (hi : ops[i]? = some oi := by exact rfl) (hN : oi.dst = some n_ := by exact rfl) (hc : takeB md ops ds l l' i = true := by exact take_ofW HT_.out HW_.out (by kernel_rfl)) (hy : YieldsIf P ops S oi v a := by (refine Or.inl ⟨by rfl, ?_⟩; rintro w' ⟨s0, s1, s2, s3, s4⟩; go_simp; with_reducible rfl)) (hS : S w := by exact hHeld)
    (hQ : ∀ c a w, Q (.panic c) (a.put oi.dst v) w → Q (.panic c) a w := by exact fun _ _ _ h => h) (ha : a.put (some n_) v = a' := by (simp only [Act.put, List.setIfInBounds_toArray, List.set_cons_zero, List.set_cons_succ, i64_w, i32_w]; rfl)) :
    wpAnyLast P md ops Q S ds (fuel + 1) l a w := take_ l' hi hN hc hQ hy hS ha h
theorem t6S_ (i n_ : Nat) (l' : Array Bool) {oi : Oper} {v : Value} {fuel : Nat} {l : Array Bool} {a : Act} {w : World} {a' : Act} (h : wpAnyLast P md ops Q S ds fuel l' a' w)
    (hi : ops[i]? = some oi := by exact rfl) (hN : oi.dst = some n_ := by exact rfl) (hc : takeB md ops ds l l' i = true := by exact take_ofW HT_.out HW_.out (by kernel_rfl)) (hy : YieldsIf P ops S oi v a := by (refine Or.inl ⟨by rfl, ?_⟩; rintro w' ⟨s0, s1, s2, s3, s4, s5⟩; go_simp; with_reducible rfl)) (hS : S w := by exact hHeld)
    (hQ : ∀ c a w, Q (.panic c) (a.put oi.dst v) w → Q (.panic c) a w := by exact fun _ _ _ h => h) (ha : a.put (some n_) v = a' := by (simp only [Act.put, List.setIfInBounds_toArray, List.set_cons_zero, List.set_cons_succ, i64_w, i32_w]; rfl)) :
    wpAnyLast P md ops Q S ds (fuel + 1) l a w := take_ l' hi hN hc hQ hy hS ha h
theorem t7S_ (i n_ : Nat) (l' : Array Bool) {oi : Oper} {v : Value} {fuel : Nat} {l : Array Bool} {a : Act} {w : World} {a' : Act} (h : wpAnyLast P md ops Q S ds fuel l' a' w)
    (hi : ops[i]? = some oi := by exact rfl) (hN : oi.dst = some n_ := by exact rfl) (hc : takeB md ops ds l l' i = true := by exact take_ofW HT_.out HW_.out (by kernel_rfl)) (hy : YieldsIf P ops S oi v a := by (refine Or.inl ⟨by rfl, ?_⟩; rintro w' ⟨s0, s1, s2, s3, s4, s5, s6⟩; go_simp; with_reducible rfl)) (hS : S w := by exact hHeld)
    (hQ : ∀ c a w, Q (.panic c) (a.put oi.dst v) w → Q (.panic c) a w := by exact fun _ _ _ h => h) (ha : a.put (some n_) v = a' := by (simp only [Act.put, List.setIfInBounds_toArray, List.set_cons_zero, List.set_cons_succ, i64_w, i32_w]; rfl)) :
    wpAnyLast P md ops Q S ds (fuel + 1) l a w := take_ l' hi hN hc hQ hy hS ha h
theorem t8S_ (i n_ : Nat) (l' : Array Bool) {oi : Oper} {v : Value} {fuel : Nat} {l : Array Bool} {a : Act} {w : World} {a' : Act} (h : wpAnyLast P md ops Q S ds fuel l' a' w)
    (hi : ops[i]? = some oi := by exact rfl) (hN : oi.dst = some n_ := by exact rfl) (hc : takeB md ops ds l l' i = true := by exact take_ofW HT_.out HW_.out (by kernel_rfl)) (hy : YieldsIf P ops S oi v a := by (refine Or.inl ⟨by rfl, ?_⟩; rintro w' ⟨s0, s1, s2, s3, s4, s5, s6, s7⟩; go_simp; with_reducible rfl)) (hS : S w := by exact hHeld)
    (hQ : ∀ c a w, Q (.panic c) (a.put oi.dst v) w → Q (.panic c) a w := by exact fun _ _ _ h => h) (ha : a.put (some n_) v = a' := by (simp only [Act.put, List.setIfInBounds_toArray, List.set_cons_zero, List.set_cons_succ, i64_w, i32_w]; rfl)) :
    wpAnyLast P md ops Q S ds (fuel + 1) l a w := take_ l' hi hN hc hQ hy hS ha h
theorem t10S_ (i n_ : Nat) (l' : Array Bool) {oi : Oper} {v : Value} {fuel : Nat} {l : Array Bool} {a : Act} {w : World} {a' : Act} (h : wpAnyLast P md ops Q S ds fuel l' a' w)
    (hi : ops[i]? = some oi := by exact rfl) (hN : oi.dst = some n_ := by exact rfl) (hc : takeB md ops ds l l' i = true := by exact take_ofW HT_.out HW_.out (by kernel_rfl)) (hy : YieldsIf P ops S oi v a := by (refine Or.inl ⟨by rfl, ?_⟩; rintro w' ⟨s0, s1, s2, s3, s4, s5, s6, s7, s8, s9⟩; go_simp; with_reducible rfl)) (hS : S w := by exact hHeld)
    (hQ : ∀ c a w, Q (.panic c) (a.put oi.dst v) w → Q (.panic c) a w := by exact fun _ _ _ h => h) (ha : a.put (some n_) v = a' := by (simp only [Act.put, List.setIfInBounds_toArray, List.set_cons_zero, List.set_cons_succ, i64_w, i32_w]; rfl)) :
    wpAnyLast P md ops Q S ds (fuel + 1) l a w := take_ l' hi hN hc hQ hy hS ha h
end
end Go.Proofs.Ytjhfglpgpicmiaa.F
end
section
namespace Go.Proofs.Ytjhfglpgpicmiaa.F
open Go.RowKit Go.Proofs.YtjhfglpgpicmiaaW.PrintWords Go.Proofs.YtjhfglpgpicmiaaW.PrintLast Go.Proofs.YtjhfglpgpicmiaaW.PrintMore
attribute [local go_sem] max2_int min2_int max_two min_two max_three min_three max_four min_four
set_option linter.unusedVariables false
set_option linter.unusedSimpArgs false

def host_wrong.f (a0 : Int) (a1 : Int) (a2 : Int) : Option (Bool) := if a1 = 0 then (some true) else (if a0 > 1125899906842624 then (some true) else (if a1 > (IntKind.u64.wrap (1125899906842624 - a0)) then (some true) else ((host_badProt.f a2).bind fun t133 => (some t133))))
set_option maxHeartbeats 8000000 in
set_option maxRecDepth 100000 in
theorem host_wrong.calls (a0 : Int) (a1 : Int) (a2 : Int) (r : Bool) (w : World) (h : host_wrong.f a0 a1 a2 = some r) :
    Calls Try.prog 64 #[.int .u64 a0, .int .u64 a1, .int .i64 a2] w fun e w' => e = .returned (.bool r) ∧ Drawn0 w w' := by
  have H : (if a1 = 0 then (some true) else (if a0 > 1125899906842624 then (some true) else (if a1 > (IntKind.u64.wrap (1125899906842624 - a0)) then (some true) else ((host_badProt.f a2).bind fun t133 => (some t133))))) = some r := h
  clear h
  by_cases c4 : a1 = 0
  · rw [if_pos c4] at H
    have c4b0 : (a1 == 0) = true := beq_iff_eq.mpr c4
    have c4b1 : (a1 != 0) = false := bne_eq_false_iff_eq.mpr c4
    clear c4
    obtain rfl := Option.some.inj H
    go_enter Try.func64, Try.ntmps64
    go_wp2
    go_ret
    exact ⟨by first | rfl | (simp; done) | (simp [*]; done), by repeat (first | exact Drawn0.refl _ | apply Drawn0.step)⟩
  rw [if_neg c4] at H
  have c4b0 : (a1 == 0) = false := beq_eq_false_iff_ne.mpr c4
  have c4b1 : (a1 != 0) = true := bne_iff_ne.mpr c4
  by_cases c5 : a0 > 1125899906842624
  · rw [if_pos c5] at H
    have c5b0 : decide (1125899906842624 < a0) = true := decide_eq_true c5
    clear c5
    obtain rfl := Option.some.inj H
    go_enter Try.func64, Try.ntmps64
    go_wp2
    go_ret
    exact ⟨by first | rfl | (simp; done) | (simp [*]; done), by repeat (first | exact Drawn0.refl _ | apply Drawn0.step)⟩
  rw [if_neg c5] at H
  have c5b0 : decide (1125899906842624 < a0) = false := decide_eq_false c5
  clear c5
  by_cases c6 : a1 > (IntKind.u64.wrap (1125899906842624 - a0))
  · rw [if_pos c6] at H
    have c6b0 : decide ((IntKind.u64.wrap (1125899906842624 - a0)) < a1) = true := decide_eq_true c6
    clear c6
    obtain rfl := Option.some.inj H
    go_enter Try.func64, Try.ntmps64
    go_wp2
    go_ret
    exact ⟨by first | rfl | (simp; done) | (simp [*]; done), by repeat (first | exact Drawn0.refl _ | apply Drawn0.step)⟩
  rw [if_neg c6] at H
  have c6b0 : decide ((IntKind.u64.wrap (1125899906842624 - a0)) < a1) = false := decide_eq_false c6
  clear c6
  replace H := Option.bind_eq_some_iff.mp H
  obtain ⟨t133, A70, H⟩ := H
  have A7 := Aside0.mk A70
  clear A70
  obtain rfl := Option.some.inj H
  go_enter Try.func64, Try.ntmps64
  go_wp2_with (first | (go_at_call 87; (with_reducible refine (host_badProt.calls a2 t133 _ A7.out).mono ?_); rintro e w' ⟨rfl, ⟨nd, rfl⟩⟩))
  go_ret
  exact ⟨by first | rfl | (simp; done) | (simp [*]; done), by repeat (first | exact Drawn0.refl _ | apply Drawn0.step)⟩

end Go.Proofs.Ytjhfglpgpicmiaa.F
end
